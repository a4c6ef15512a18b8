/- Texts that this claim's law leans on, without what nothing names. What each says stands at its theorems; conditions stand in them. (Put together by the session's program shake.py; Lean checks it.) -/
import Derived.Test.YtflckegggopdnaaZCCP0
import Derived.Test.YtflckegggopdnaaZCCP2
import Derived.Test.YtflckegggopdnaaZCCP5
import Derived.Test.YtflckegggopdnaaZCCP8
import Derived.Test.YtflckegggopdnaaZCCP12
import Derived.Test.YtflckegggopdnaaZCCGUp2
import Derived.Test.YtflckegggopdnaaZCCP3
set_option linter.unusedVariables false
set_option maxHeartbeats 8000000
set_option maxRecDepth 100000
set_option linter.unusedSimpArgs false
namespace Go.Proofs.Ytflckegggopdnaa.B
section
open Go.RowKit Go.Proofs.YtflckegggopdnaaW
section
def spec_l4Behind.l0 : Nat → List ByteArray → List ByteArray → Int → Option (List ByteArray)
 | 0, _, _, _ => none
 | k + 1, x1, x2, x0 => if x0 < (x1.length : Int) then (if 0 ≤ x0 then (if x2.length < 8796093022208 then (spec_l4Behind.l0 k x1 (x2 ++ [rdOf ByteArray.empty x1 x0]) (wrap64 (x0 + 1))) else (none)) else (none)) else (some x2)
def spec_l4Behind.f (k : Nat) (a0 : ByteArray) (l1 : List ByteArray) : Option (List ByteArray) := spec_l4Behind.l0 k l1 (([a0] : List ByteArray)) 0
theorem spec_l4Behind.calls (k : Nat) (a0 : ByteArray) (A0 : Option Addr) (c0 : Nat) (l1 r : List ByteArray) (w : World) (hr1 : Kd.C Kd.string w A0 l1.length l1) (hc1 : l1.length ≤ c0) (h : spec_l4Behind.f k a0 l1 = some r) :
  Calls Try.prog 89 #[.string a0, .slice A0 l1.length c0] w fun e w' => ∃ v0_ : Value, e = .returned (v0_) ∧ Kd.R Kd.string 9 w' w.heap.size (fun _ => True) v0_ r ∧ Below w.heap.size w w' := by
 have HR1 := a_ hr1
 have HC1 := a_ hc1
 clear hr1 hc1
 have HB := rB_ w
 have H := h
 unfold spec_l4Behind.f at H
 clear h
 obtain ⟨y0, hy0⟩ : ∃ y_ : List ByteArray, y_ = (([a0] : List ByteArray)) := ⟨_, rfl⟩
 replace H : (spec_l4Behind.l0 k l1 y0 0) = some r := rpl_ hy0 H
 have Ny0 := a_ hy0
 clear hy0
 have H' := a_ H
 clear H
 go_enter Try.func89, Try.ntmps89
 go_wp2_with (first | ((with_reducible refine gate_dst (N := 8) rfl ?_); refine Kd.R_lit Kd.string _ 9 ?hg (N := 8) ?hd (xs := ([a0] : List ByteArray)) (inner := [.string a0]) (ok := fun _ => True) (okp := fun _ => True) ?hr ?hp (fun _ hk => hk) trivial (Below.refl _ _) (Nat.le_refl _) (by simp) ?_; (case hd => rfl); (case hg => rfl); (case hr => first | (go_simp; done) | (go_simp; rfl)); (case hp => exact (Reps.one (show Kd.M Kd.string _ _ _ a0 [.string a0] from rfl) (Reps.none _ _))); intro v2 w1 ho0 hb hg_ hnew_; clear hg_ hnew_; (first | rw [← Ny0.out] at ho0 | (simp only [Int.reduceToNat] at ho0; rw [← Ny0.out] at ho0)); have HO0 := a_ (Kd.R_lower ho0 (below_size bel_)); replace HB := s_ hb; clear hb ho0))
 go_loopg [5, 6] k (fun kq v0 v1 w' => ∃ (x1 : List ByteArray) (x0 : Int), v1 = .int .i64 x0 ∧ Aside0 (spec_l4Behind.l0 kq l1 x1 x0 = some r) ∧ Aside0 (kq ≤ k) ∧ Aside0 (Kd.R Kd.string 9 w' w.heap.size (fun _ => True) v0 x1) ∧ Aside0 (Below w.heap.size w w'))
 case atStart => exact ⟨(y0), (0), rl_, H', ⟨Nat.le_refl _⟩, ⟨kdU_ HO0.out⟩, ⟨bel_⟩⟩
 case round =>
  clear H'
  (try clear c0)
  obtain ⟨x1, x0, rfl, HA, HK1, HO_0, HB⟩ := hrel
  cases gk with
  | zero => exact absurd HA.out (by simp [spec_l4Behind.l0])
  | succ k1 =>
   have H := HA.out
   clear HA
   simp only [spec_l4Behind.l0] at H
   by_cases c5 : x0 < (l1.length : Int)
   ·rw [if_pos c5] at H
    have c1 := decide_eq_true c5
    clear c5
    obtain ⟨c11, H⟩ := ifd_ H
    obtain ⟨c7, H⟩ := ifn_ H
    have LMc0 := a_ c7
    clear c7
    obtain ⟨y1, hy1⟩ : ∃ y_ : List ByteArray, y_ = (x1 ++ [rdOf ByteArray.empty l1 x0]) := ⟨_, rfl⟩
    replace H : (spec_l4Behind.l0 k1 l1 y1 (wrap64 (x0 + 1))) = some r := rpl_ hy1 H
    have Ny1 := a_ hy1
    clear hy1
    have H' := a_ H
    clear H
    have p0 : 0 ≤ (x0 : Int) := ofd_
    have q0 : x0 < (l1.length : Int) := ofd_
    obtain ⟨ad0, e0, hx0⟩ := Kd.at_string HR1.out x0 p0 q0
    cases e0
    replace hx0 := pc_ HB.out hx0
    replace p0 := eq_true p0
    replace q0 := eq_true q0
    go_wp2_with (first | ((with_reducible refine gate_builtin (b := .append) (xs := #[.tmp 15, .tmp 20]) rfl ?_); at_builtin; refine Kd.R_append Kd.string (w0 := w) w.heap.size rfl (.tmp 15) (.tmp 20) 61 9 (.string ⟨#[]⟩) 16 rfl Try.underlying61 info9 rfl (by decide) (by omega) u5 x1 (rdOf ByteArray.empty l1 x0) [.string (rdOf ByteArray.empty l1 x0)] (fun _ => True) (fun _ => False) rfl rfl ?aP (fun _ hk => hk.elim) ?aF ?aO ?aB ?aS ?aL ?_; (case aP => exact rfl); (case aB => exact bel_); (case aF => exact (fun _ _ => trivial)); (case aO => exact (kdU_ HO_0.out)); (case aS => exact (below_size bel_)); (case aL => have := LMc0.out; omega); intro v3 w8 ho hb hg hat; rw [← Ny1.out] at ho; replace HB := a_ (hb); have HO1 := a_ (ho); clear HO_0; clear ho hb hg hat))
    go_roundg k1
    case measure => have := HK1.out; omega
    case rel => exact ⟨(y1), (wrap64 (x0 + 1)), rl_, H', ⟨by have := HK1.out; omega⟩, ⟨kdU_ HO1.out⟩, ⟨bel_⟩⟩
   ·rw [if_neg c5] at H
    have c1 := decide_eq_false c5
    clear c5
    obtain rfl := Option.some.inj H
    go_wp2
    go_ret
    exact ⟨_, rfl_, uR_ HO_0.out, bel_⟩
end
section
def spec_l4Down.f : Nat → Int → Int → ByteArray → List (S29) → Option (List ByteArray)
 | 0, _, _, _, _ => none
 | k + 1, a2, a0, a1, l3 => if a2 < 2 then ((spec_l1LeafText.f a1).bind fun t1 => (some (([t1] : List ByteArray)))) else ((spec_TreeSplit.f k a2).bind fun t0 => (if 0 ≤ (wrap64 ((l3.length : Int) - 1)) then (if (wrap64 ((l3.length : Int) - 1)) < (l3.length : Int) then (if (wrap64 ((l3.length : Int) - 1)) ≤ (l3.length : Int) then ((some (l3.take ((wrap64 ((l3.length : Int) - 1)) : Int).toNat : List (S29))).bind fun y0 => (if a0 < t0 then ((spec_HashLeaf.f k a1).bind fun bt0 => ((spec_l3Up.f k t0 a0 bt0.1 bt0.2.1 bt0.2.2.1 bt0.2.2.2 y0).bind fun bt1 => ((spec_l1PairText.f k bt1.1 bt1.2.1 bt1.2.2.1 bt1.2.2.2 ((rd_T29 l3 (wrap64 ((l3.length : Int) - 1))).f0) ((rd_T29 l3 (wrap64 ((l3.length : Int) - 1))).f1) ((rd_T29 l3 (wrap64 ((l3.length : Int) - 1))).f2) ((rd_T29 l3 (wrap64 ((l3.length : Int) - 1))).f3)).bind fun t2 => ((spec_l4Down.f k t0 a0 a1 y0).bind fun t3 => ((spec_l4Behind.f k t2 t3).bind fun t4 => (some t4)))))) else ((spec_HashLeaf.f k a1).bind fun bt2 => ((spec_l3Up.f k (wrap64 (a2 - t0)) (wrap64 (a0 - t0)) bt2.1 bt2.2.1 bt2.2.2.1 bt2.2.2.2 y0).bind fun bt3 => ((spec_l1PairText.f k ((rd_T29 l3 (wrap64 ((l3.length : Int) - 1))).f0) ((rd_T29 l3 (wrap64 ((l3.length : Int) - 1))).f1) ((rd_T29 l3 (wrap64 ((l3.length : Int) - 1))).f2) ((rd_T29 l3 (wrap64 ((l3.length : Int) - 1))).f3) bt3.1 bt3.2.1 bt3.2.2.1 bt3.2.2.2).bind fun t5 => ((spec_l4Down.f k (wrap64 (a2 - t0)) (wrap64 (a0 - t0)) a1 y0).bind fun t6 => ((spec_l4Behind.f k t5 t6).bind fun t7 => (some t7)))))))) else (none)) else (none)) else (none)))
def spec_l4Down.T7 : TT_ := (true, [([], []), ([], []), ([], []), ([2], [2]), ([], []), ([0, 1, 3, 4, 3], [0, 1, 3, 4]), ([], []), ([5, 6, 5], [5, 6]), ([], []), ([], []), ([], []), ([], []), ([8, 9, 10, 11, 7], [8, 9, 10, 11]), ([7, 12, 12], [7, 12]), ([13, 13, 0, 1, 2, 3, 4, 5, 6, 7, 8, 9, 10, 11, 12, 13], [13])])
def spec_l4Down.B7 : List Nat := [0, 0, 0, 4, 0, 31, 0, 127, 0, 0, 0, 0, 4095, 8191, 16383]
theorem spec_l4Down.tab7 : rtab .any (opsOf Try.f48 7) = spec_l4Down.T7 := by kernel_rfl
theorem spec_l4Down.bits7 : waitsOk spec_l4Down.T7.2 spec_l4Down.B7 = true := by kernel_rfl
def spec_l4Down.T8 : TT_ := (true, [([], []), ([], []), ([], []), ([1, 2], [1, 2]), ([], []), ([], []), ([4, 5], [4, 5]), ([], []), ([7], [7]), ([], []), ([3, 6, 8, 9, 8], [3, 6, 8, 9]), ([0, 10, 10], [0, 10]), ([], []), ([], []), ([12, 13], [12, 13]), ([], []), ([], []), ([15, 16], [15, 16]), ([], []), ([], []), ([14, 17, 18, 19, 11], [14, 17, 18, 19]), ([11, 20, 20], [11, 20]), ([21, 21, 0, 1, 2, 3, 4, 5, 6, 7, 8, 9, 10, 11, 12, 13, 14, 15, 16, 17, 18, 19, 20, 21], [21])])
def spec_l4Down.B8 : List Nat := [0, 0, 0, 6, 0, 0, 48, 0, 128, 0, 1022, 2047, 0, 0, 12288, 0, 0, 98304, 0, 0, 1048575, 2097151, 4194303]
theorem spec_l4Down.tab8 : rtab .any (opsOf Try.f48 8) = spec_l4Down.T8 := by kernel_rfl
theorem spec_l4Down.bits8 : waitsOk spec_l4Down.T8.2 spec_l4Down.B8 = true := by kernel_rfl
theorem spec_l4Down.calls (k : Nat) : ∀ (a2 a0 : Int) (a1 : ByteArray) (A1 : Option Addr) (c3 : Nat) (l3 : List (S29)) (r : List ByteArray) (w : World) (hr3 : Kd.C k29 w A1 l3.length l3) (hc3 : l3.length ≤ c3) (h : spec_l4Down.f k a2 a0 a1 l3 = some r),
  Calls Try.prog 48 #[.int .i64 a2, .int .i64 a0, .string a1, .slice A1 l3.length c3] w fun e w' => ∃ v0_ : Value, e = .returned (v0_) ∧ Kd.R Kd.string 9 w' w.heap.size (fun _ => True) v0_ r ∧ Below w.heap.size w w' := by
 induction k using Nat.strongRecOn with
 | _ k ih =>
 intro a2 a0 a1 A1 c3 l3 r w hr3 hc3 h
 cases k with
 | zero => exact absurd h (by simp [spec_l4Down.f])
 | succ k =>
 simp only [spec_l4Down.f] at h
 have hu29 := Try.underlying29
 have HR3 := a_ hr3
 have HC3 := a_ hc3
 clear hr3 hc3
 have HB := rB_ w
 have H : (if a2 < 2 then ((spec_l1LeafText.f a1).bind fun t3 => (some (([t3] : List ByteArray)))) else ((spec_TreeSplit.f k a2).bind fun t0 => (if 0 ≤ (wrap64 ((l3.length : Int) - 1)) then (if (wrap64 ((l3.length : Int) - 1)) < (l3.length : Int) then (if (wrap64 ((l3.length : Int) - 1)) ≤ (l3.length : Int) then ((some (l3.take ((wrap64 ((l3.length : Int) - 1)) : Int).toNat : List (S29))).bind fun y0 => (if a0 < t0 then ((spec_HashLeaf.f k a1).bind fun bt0 => ((spec_l3Up.f k t0 a0 bt0.1 bt0.2.1 bt0.2.2.1 bt0.2.2.2 y0).bind fun bt1 => ((spec_l1PairText.f k bt1.1 bt1.2.1 bt1.2.2.1 bt1.2.2.2 ((rd_T29 l3 (wrap64 ((l3.length : Int) - 1))).f0) ((rd_T29 l3 (wrap64 ((l3.length : Int) - 1))).f1) ((rd_T29 l3 (wrap64 ((l3.length : Int) - 1))).f2) ((rd_T29 l3 (wrap64 ((l3.length : Int) - 1))).f3)).bind fun t4 => ((spec_l4Down.f k t0 a0 a1 y0).bind fun t1 => ((spec_l4Behind.f k t4 t1).bind fun t6 => (some t6)))))) else ((spec_HashLeaf.f k a1).bind fun bt2 => ((spec_l3Up.f k (wrap64 (a2 - t0)) (wrap64 (a0 - t0)) bt2.1 bt2.2.1 bt2.2.2.1 bt2.2.2.2 y0).bind fun bt3 => ((spec_l1PairText.f k ((rd_T29 l3 (wrap64 ((l3.length : Int) - 1))).f0) ((rd_T29 l3 (wrap64 ((l3.length : Int) - 1))).f1) ((rd_T29 l3 (wrap64 ((l3.length : Int) - 1))).f2) ((rd_T29 l3 (wrap64 ((l3.length : Int) - 1))).f3) bt3.1 bt3.2.1 bt3.2.2.1 bt3.2.2.2).bind fun t5 => ((spec_l4Down.f k (wrap64 (a2 - t0)) (wrap64 (a0 - t0)) a1 y0).bind fun t2 => ((spec_l4Behind.f k t5 t2).bind fun t7 => (some t7)))))))) else (none)) else (none)) else (none)))) = some r := h
 clear h
 by_cases c5 : a2 < 2
 ·rw [if_pos c5] at H
  have c12 := decide_eq_true c5
  clear c5
  obtain ⟨t3, A12, H⟩ := bnd_ H
  obtain ⟨y1, hy2⟩ : ∃ y_ : List ByteArray, y_ = (([t3] : List ByteArray)) := ⟨_, rfl⟩
  replace H : (some y1) = some r := rpl_ hy2 H
  have Ny1 := a_ hy2
  clear hy2
  obtain rfl := Option.some.inj H
  go_enter Try.func48, Try.ntmps48
  go_wp2_with (first | (refine gcB_ 87 15 Try.func87 (spec_l1LeafText.calls _ _ _ A12.out) ?_; intro w18 hb; replace HB := s_ hb; clear hb) | ((with_reducible refine gate_dst (N := 16) rfl ?_); refine Kd.R_lit Kd.string _ 9 ?hg (N := 16) ?hd (xs := ([t3] : List ByteArray)) (inner := [.string t3]) (ok := fun _ => True) (okp := fun _ => True) ?hr ?hp (fun _ hk => hk) trivial (Below.refl _ _) (Nat.le_refl _) (by simp) ?_; (case hd => rfl); (case hg => rfl); (case hr => first | (go_simp; done) | (go_simp; rfl)); (case hp => exact (Reps.one (show Kd.M Kd.string _ _ _ t3 [.string t3] from rfl) (Reps.none _ _))); intro v0 w8 ho1 hb hg_ hnew_; clear hg_ hnew_; (first | rw [← Ny1.out] at ho1 | (simp only [Int.reduceToNat] at ho1; rw [← Ny1.out] at ho1)); have HO2 := a_ (Kd.R_lower ho1 (below_size bel_)); replace HB := s_ hb; clear hb ho1))
  go_ret
  exact ⟨_, rfl_, uR_ HO2.out, bel_⟩
 ·rw [if_neg c5] at H
  have c12 := decide_eq_false c5
  clear c5
  obtain ⟨t0, A0, H⟩ := bnd_ H
  obtain ⟨ji11, hji11⟩ : ∃ j_ : Int, (wrap64 ((l3.length : Int) - 1)) = j_ := ⟨_, rfl⟩
  replace H : (if 0 ≤ (ji11) then (if (ji11) < (l3.length : Int) then (if (ji11) ≤ (l3.length : Int) then ((some (l3.take ((ji11) : Int).toNat : List (S29))).bind fun y0 => (if a0 < t0 then ((spec_HashLeaf.f k a1).bind fun bt0 => ((spec_l3Up.f k t0 a0 bt0.1 bt0.2.1 bt0.2.2.1 bt0.2.2.2 y0).bind fun bt1 => ((spec_l1PairText.f k bt1.1 bt1.2.1 bt1.2.2.1 bt1.2.2.2 ((rd_T29 l3 (ji11)).f0) ((rd_T29 l3 (ji11)).f1) ((rd_T29 l3 (ji11)).f2) ((rd_T29 l3 (ji11)).f3)).bind fun t4 => ((spec_l4Down.f k t0 a0 a1 y0).bind fun t1 => ((spec_l4Behind.f k t4 t1).bind fun t6 => (some t6)))))) else ((spec_HashLeaf.f k a1).bind fun bt2 => ((spec_l3Up.f k (wrap64 (a2 - t0)) (wrap64 (a0 - t0)) bt2.1 bt2.2.1 bt2.2.2.1 bt2.2.2.2 y0).bind fun bt3 => ((spec_l1PairText.f k ((rd_T29 l3 (ji11)).f0) ((rd_T29 l3 (ji11)).f1) ((rd_T29 l3 (ji11)).f2) ((rd_T29 l3 (ji11)).f3) bt3.1 bt3.2.1 bt3.2.2.1 bt3.2.2.2).bind fun t5 => ((spec_l4Down.f k (wrap64 (a2 - t0)) (wrap64 (a0 - t0)) a1 y0).bind fun t2 => ((spec_l4Behind.f k t5 t2).bind fun t7 => (some t7)))))))) else (none)) else (none)) else (none)) = some r := by first | (rw [hji11] at H; exact H) | (simp only [hji11] at H ⊢; exact H)
  (try rw [hji11] at A0)
  have hji11w : (IntKind.i64.wrap ((l3.length : Int) - 1)) = ji11 := (i64_w _).trans hji11
  obtain ⟨c13, H⟩ := ifd_ H
  obtain ⟨c14, H⟩ := ifd_ H
  have c15 := eq_true (ofd_ : 0 ≤ (ji11))
  obtain ⟨c1, H⟩ := ifn_ H
  have c16 := eq_true c1
  have c17 := decide_eq_true c1
  clear c1
  obtain ⟨y0, hy3⟩ : ∃ y_ : List (S29), y_ = (l3.take ((ji11) : Int).toNat) := ⟨_, rfl⟩
  replace H : (if a0 < t0 then ((spec_HashLeaf.f k a1).bind fun bt0 => ((spec_l3Up.f k t0 a0 bt0.1 bt0.2.1 bt0.2.2.1 bt0.2.2.2 y0).bind fun bt1 => ((spec_l1PairText.f k bt1.1 bt1.2.1 bt1.2.2.1 bt1.2.2.2 ((rd_T29 l3 (ji11)).f0) ((rd_T29 l3 (ji11)).f1) ((rd_T29 l3 (ji11)).f2) ((rd_T29 l3 (ji11)).f3)).bind fun t4 => ((spec_l4Down.f k t0 a0 a1 y0).bind fun t1 => ((spec_l4Behind.f k t4 t1).bind fun t6 => (some t6)))))) else ((spec_HashLeaf.f k a1).bind fun bt2 => ((spec_l3Up.f k (wrap64 (a2 - t0)) (wrap64 (a0 - t0)) bt2.1 bt2.2.1 bt2.2.2.1 bt2.2.2.2 y0).bind fun bt3 => ((spec_l1PairText.f k ((rd_T29 l3 (ji11)).f0) ((rd_T29 l3 (ji11)).f1) ((rd_T29 l3 (ji11)).f2) ((rd_T29 l3 (ji11)).f3) bt3.1 bt3.2.1 bt3.2.2.1 bt3.2.2.2).bind fun t5 => ((spec_l4Down.f k (wrap64 (a2 - t0)) (wrap64 (a0 - t0)) a1 y0).bind fun t2 => ((spec_l4Behind.f k t5 t2).bind fun t7 => (some t7))))))) = some r := rpl_ hy3 H
  have Ny0 := a_ hy3
  clear hy3
  by_cases c0 : a0 < t0
  ·rw [if_pos c0] at H
   have c11 := decide_eq_true c0
   clear c0
   obtain ⟨⟨t8, t9, t10, t11⟩, A2, H⟩ := bnd_ H
   dsimp only at H
   obtain ⟨⟨t12, t13, t14, t15⟩, A3, H⟩ := bnd_ H
   dsimp only at H
   obtain ⟨t4, A4, H⟩ := bnd_ H
   obtain ⟨t1, A5, H⟩ := bnd_ H
   obtain ⟨t6, A6, H⟩ := bnd_ H
   obtain rfl := Option.some.inj H
   go_enter Try.func48, Try.ntmps48
   try go_wp2_with (first | (refine gcD_ 88 18 Try.func88 (spec_TreeSplit.calls _ _ _ _ A0.out) ?_; intro nd; have p0 : 0 ≤ ((ji11) : Int) := ofd_; have q0 : (ji11) < (l3.length : Int) := ofd_; obtain ⟨ad0, e0, hx0, hx1, hx2, hx3⟩ := at_T29 HR3.out (ji11) p0 q0; cases e0; replace p0 := eq_true p0; replace q0 := eq_true q0) | (refine bx_ 10 #[.int .u64 0, .int .u64 0, .int .u64 0, .int .u64 0] 29 ?_; intro gb0 w3 hg hb BK0 GW0; replace HB := s_ hb; clear hb hg; obtain ⟨z0, z1, z2, z3, f0, f1, f2, f3⟩ := cz4_ BK0.out) | ((with_reducible refine gate_store (t := 29) (p := 10) rfl ?_); refine store_event (t := 29) (p := 10) (v := ?vo_w24) (w1 := ((((w3.setCell ⟨gb0, 0, none⟩ (.int .u64 ((rd_T29 l3 (ji11)).f0))).setCell ⟨gb0, 1, none⟩ (.int .u64 ((rd_T29 l3 (ji11)).f1))).setCell ⟨gb0, 2, none⟩ (.int .u64 ((rd_T29 l3 (ji11)).f2))).setCell ⟨gb0, 3, none⟩ (.int .u64 ((rd_T29 l3 (ji11)).f3)))) ?hg ?ho ?hn ?hr ?_; (case ho => rfl); (case hg => rfl); (case hn => rfl); (case hr => first | (go_simp; done) | (go_simp; rfl)); intro w1 hw; have n0_ : Aside0 (w1.heap[gb0]? = some (.cells #[.int .u64 ((rd_T29 l3 (ji11)).f0), .int .u64 ((rd_T29 l3 (ji11)).f1), .int .u64 ((rd_T29 l3 (ji11)).f2), .int .u64 ((rd_T29 l3 (ji11)).f3)] 29 (0, 0))) := ⟨(by rw [hw]; exact (blkF_ BK0.out))⟩; have n1_ : Aside0 (Below w.heap.size w w1) := ⟨(by rw [hw]; exact bel_)⟩; clear hw; clear BK0; clear HB; have BK0 := n0_; have HB := n1_; clear n0_ n1_; have q1 : ((ji11) : Int) ≤ ((l3.length : Int) : Int) := ofd_; obtain ⟨i025, hi0, _, hsz25, _⟩ := info_parts info29; have hroom25 : l3.length ≤ c3 := HC3.out; have hC25 : Kd.C k29 _ (some ad0) l3.length l3 := HR3.out; have hcut25 := cut_to (P := Try.prog) 49 29 .i64 Try.underlying49 hi0 (some ad0) l3.length c3 (ji11) (ofd_) q1 hroom25; have hr25 := Kd.C_take (m := ((ji11) : Int).toNat) hC25 (by omega); have hy0 : y0.length = ((ji11) : Int).toNat := (by rw [Ny0.out, List.length_take]; omega); rw [← Ny0.out] at hr25; rw [← hy0] at hcut25; have HR692 := a_ hr25; have HC692 := a_ (show y0.length ≤ c3 from by omega); clear hr25 hC25 hroom25 hi0 hsz25; have KY25 := a_ hy0; clear hy0; replace q1 := eq_true q1))
   replace BK0 := a_ (blk_drew BK0.out)
   replace HB := a_ (below_drew1 HB.out)
   refine start_ (n := 15) (S := fun w' => hd4_ w' gb0 (.int .u64 ((rd_T29 l3 (ji11)).f0)) (.int .u64 ((rd_T29 l3 (ji11)).f1)) (.int .u64 ((rd_T29 l3 (ji11)).f2)) (.int .u64 ((rd_T29 l3 (ji11)).f3))) (ds := []) #[false, false, false, false, false, false, false, false, false, false, false, false, false, false, false] (by kernel_rfl) rfl rfl (hc4_ BK0.out) (fun hHeld => ?_); refine with_tabW spec_l4Down.tab7 spec_l4Down.bits7 (fun HT HW_ => ?_)
   generalize w1.drew = w5 at BK0 HB hHeld ⊢
   refine qP_ 0 33 15 1 ?_
   refine qP_ 1 34 15 3 ?_
   refine qP_ 2 35 15 7 ?_
   refine qP_ 4 37 15 23 ?_
   refine qP_ 8 41 15 279 ?_
   refine qP_ 9 42 15 791 ?_
   refine qP_ 10 43 15 1815 ?_
   refine qP_ 11 44 15 3863 ?_
   refine qT_ 6 39 15 3927 ?_
   refine oneP_ 3 (some 36) (b_ 15 3935) HT (fun K hK => ?_)
   refine goN_ Try.func92 #[.string a1] ?_
   with_reducible refine (spec_HashLeaf.calls _ _ _ _ _ _ _ A2.out).mono ?_
   rintro e w6 ⟨rfl, hb⟩
   refine ⟨_, rfl, ?_⟩
   replace BK0 := bb_ BK0.out hb
   replace HB := s_ hb
   (try clear hb)
   refine hK.out _ _ (hc4_ BK0.out) (fun hHeld => ?_)
   clear hK K
   refine normP_ (some 36) ?_
   refine oneP_ 5 (some 38) (b_ 15 3967) HT (fun K hK => ?_)
   refine goN_ Try.func91 #[.int .i64 t0, .int .i64 a0, .agg #[.int .u64 t8, .int .u64 t9, .int .u64 t10, .int .u64 t11], .slice (some ad0) y0.length c3] ?_
   with_reducible refine (spec_l3Up.calls _ _ _ _ _ _ _ _ _ _ _ _ _ _ _ ?side1 ?side2 A3.out).mono ?_
   (case side1 => exact cU_ (Kd.C_below HR692.out HB.out))
   (case side2 => exact HC692.out)
   rintro e w7 ⟨rfl, hb⟩
   refine ⟨_, rfl, ?_⟩
   replace BK0 := bb_ BK0.out hb
   replace HB := s_ hb
   (try clear hb)
   refine hK.out _ _ (hc4_ BK0.out) (fun hHeld => ?_)
   clear hK K
   refine normP_ (some 38) ?_
   refine oneP_ 7 (some 40) (b_ 15 4095) HT (fun K hK => ?_)
   refine goes_ Try.func90 (by kernel_rfl) rfl #[.agg #[.int .u64 t12, .int .u64 t13, .int .u64 t14, .int .u64 t15], .agg #[.int .u64 ((rd_T29 l3 (ji11)).f0), .int .u64 ((rd_T29 l3 (ji11)).f1), .int .u64 ((rd_T29 l3 (ji11)).f2), .int .u64 ((rd_T29 l3 (ji11)).f3)]] (by rfl) rfl rfl (by (try simp only [List.map_toArray, List.map_cons, List.map_nil]); first | done | (simp only [hji11]; rfl) | rfl | (simp only [List.length_drop, List.length_take]; rfl)) ?_
   with_reducible refine (spec_l1PairText.calls _ _ _ _ _ _ _ _ _ _ _ A4.out).mono ?_
   rintro e w9 ⟨rfl, hb⟩
   refine ⟨_, rfl, ?_⟩
   replace BK0 := bb_ BK0.out hb
   replace HB := s_ hb
   (try clear hb)
   refine hK.out _ _ (hc4_ BK0.out) (fun hHeld => ?_)
   clear hK K
   refine normP_ (some 40) ?_
   refine oneP_ 12 (some 45) (b_ 15 8191) HT (fun K hK => ?_)
   refine goN_ Try.func48 #[.int .i64 t0, .int .i64 a0, .string a1, .slice (some ad0) y0.length c3] ?_
   with_reducible refine (ih k (by omega) t0 a0 a1 _ _ y0 t1 _ ?side1 ?side2 A5.out).mono ?_
   (case side1 => exact cU_ (Kd.C_below HR692.out HB.out))
   (case side2 => exact HC692.out)
   rintro e w10 ⟨v1, rfl, ho0, hb⟩
   refine ⟨_, rfl, ?_⟩
   have HO0 := a_ (Kd.R_lower ho0 (below_size bel_))
   replace BK0 := bb_ BK0.out hb
   replace HB := s_ hb
   (try clear hb); (try clear ho0)
   obtain ⟨Ao0, co0, eo0⟩ := Kd.R_slice HO0.out
   (first | subst eo0 | (injection eo0 with f1_ f2_ f3_; have f4_ := f1_.symm; have f5_ := f3_.symm; clear f1_ f2_ f3_; subst f4_; subst f5_))
   refine hK.out _ _ (hc4_ BK0.out) (fun hHeld => ?_)
   clear hK K
   refine normP_ (some 45) ?_
   refine oneP_ 13 (some 46) (b_ 15 16383) HT (fun K hK => ?_)
   refine goN_ Try.func89 #[.string t4, .slice Ao0 t1.length co0] ?_
   with_reducible refine (spec_l4Behind.calls _ _ _ _ _ _ _ ?side1 ?side2 A6.out).mono ?_
   (case side1 => exact cU_ (Kd.R_reads' HO0.out).2.2)
   (case side2 => exact (Kd.R_reads' HO0.out).2.1)
   rintro e w11 ⟨v2, rfl, ho0, hb⟩
   refine ⟨_, rfl, ?_⟩
   have HO3 := a_ (Kd.R_lower (Kd.R_new' ho0 (Kd.R_lt (kdU_ HO0.out))) (below_size bel_))
   replace HO0 := a_ (Kd.R_elder' (kdU_ HO0.out) (Kd.R_base ho0) hb)
   replace BK0 := bb_ BK0.out hb
   replace HB := s_ hb
   (try clear hb); (try clear ho0)
   refine hK.out _ _ (hc4_ BK0.out) (fun hHeld => ?_)
   clear hK K
   refine normP_ (some 46) ?_
   refine qP_ 14 8 15 32767 ?_
   refine done_ (done_of HT.out (by kernel_rfl)) ?_
   try go_wp2
   go_ret
   exact ⟨_, by first | rfl | (simp [errW_none, errW_some] <;> rfl) | (simp only [← hji11]; first | rfl | (simp [errW_none, errW_some] <;> rfl)) | (simp [*, errW_none, errW_some] <;> rfl), uR_ (Kd.R_mono HO3.out (fun _ hk => trivial)), bel_⟩
  ·rw [if_neg c0] at H
   have c11 := decide_eq_false c0
   clear c0
   obtain ⟨⟨t16, t17, t18, t19⟩, A7, H⟩ := bnd_ H
   dsimp only at H
   obtain ⟨⟨t20, t21, t22, t23⟩, A8, H⟩ := bnd_ H
   dsimp only at H
   obtain ⟨t5, A9, H⟩ := bnd_ H
   obtain ⟨t2, A10, H⟩ := bnd_ H
   obtain ⟨t7, A11, H⟩ := bnd_ H
   obtain rfl := Option.some.inj H
   go_enter Try.func48, Try.ntmps48
   try go_wp2_with (first | (refine gcD_ 88 18 Try.func88 (spec_TreeSplit.calls _ _ _ _ A0.out) ?_; intro nd; have p0 : 0 ≤ ((ji11) : Int) := ofd_; have q0 : (ji11) < (l3.length : Int) := ofd_; obtain ⟨ad0, e0, hx0, hx1, hx2, hx3⟩ := at_T29 HR3.out (ji11) p0 q0; cases e0; replace p0 := eq_true p0; replace q0 := eq_true q0) | (refine bx_ 10 #[.int .u64 0, .int .u64 0, .int .u64 0, .int .u64 0] 29 ?_; intro gb0 w4 hg hb BK0 GW0; replace HB := s_ hb; clear hb hg; obtain ⟨z4, z5, z6, z7, f4, f5, f6, f7⟩ := cz4_ BK0.out) | ((with_reducible refine gate_store (t := 29) (p := 10) rfl ?_); refine store_event (t := 29) (p := 10) (v := ?vo_w40) (w1 := ((((w4.setCell ⟨gb0, 0, none⟩ (.int .u64 ((rd_T29 l3 (ji11)).f0))).setCell ⟨gb0, 1, none⟩ (.int .u64 ((rd_T29 l3 (ji11)).f1))).setCell ⟨gb0, 2, none⟩ (.int .u64 ((rd_T29 l3 (ji11)).f2))).setCell ⟨gb0, 3, none⟩ (.int .u64 ((rd_T29 l3 (ji11)).f3)))) ?hg ?ho ?hn ?hr ?_; (case ho => rfl); (case hg => rfl); (case hn => rfl); (case hr => first | (go_simp; done) | (go_simp; rfl)); intro w2 hw; have n0_ : Aside0 (w2.heap[gb0]? = some (.cells #[.int .u64 ((rd_T29 l3 (ji11)).f0), .int .u64 ((rd_T29 l3 (ji11)).f1), .int .u64 ((rd_T29 l3 (ji11)).f2), .int .u64 ((rd_T29 l3 (ji11)).f3)] 29 (0, 0))) := ⟨(by rw [hw]; exact (blkF_ BK0.out))⟩; have n1_ : Aside0 (Below w.heap.size w w2) := ⟨(by rw [hw]; exact bel_)⟩; clear hw; clear BK0; clear HB; have BK0 := n0_; have HB := n1_; clear n0_ n1_; have q2 : ((ji11) : Int) ≤ ((l3.length : Int) : Int) := ofd_; obtain ⟨i041, hi1, _, hsz41, _⟩ := info_parts info29; have hroom41 : l3.length ≤ c3 := HC3.out; have hC41 : Kd.C k29 _ (some ad0) l3.length l3 := HR3.out; have hcut41 := cut_to (P := Try.prog) 49 29 .i64 Try.underlying49 hi1 (some ad0) l3.length c3 (ji11) (ofd_) q2 hroom41; have hr41 := Kd.C_take (m := ((ji11) : Int).toNat) hC41 (by omega); have hy1 : y0.length = ((ji11) : Int).toNat := (by rw [Ny0.out, List.length_take]; omega); rw [← Ny0.out] at hr41; rw [← hy1] at hcut41; have HR692 := a_ hr41; have HC692 := a_ (show y0.length ≤ c3 from by omega); clear hr41 hC41 hroom41 hi1 hsz41; have KY41 := a_ hy1; clear hy1; replace q2 := eq_true q2))
   replace BK0 := a_ (blk_drew BK0.out)
   replace HB := a_ (below_drew1 HB.out)
   refine start_ (n := 23) (S := fun w' => hd4_ w' gb0 (.int .u64 ((rd_T29 l3 (ji11)).f0)) (.int .u64 ((rd_T29 l3 (ji11)).f1)) (.int .u64 ((rd_T29 l3 (ji11)).f2)) (.int .u64 ((rd_T29 l3 (ji11)).f3))) (ds := []) #[false, false, false, false, false, false, false, false, false, false, false, false, false, false, false, false, false, false, false, false, false, false, false] (by kernel_rfl) rfl rfl (hc4_ BK0.out) (fun hHeld => ?_); refine with_tabW spec_l4Down.tab8 spec_l4Down.bits8 (fun HT HW_ => ?_)
   generalize w2.drew = w12 at BK0 HB hHeld ⊢
   refine qP_ 1 48 23 2 ?_
   refine qP_ 2 49 23 6 ?_
   refine qP_ 3 50 23 14 ?_
   refine qP_ 4 51 23 30 ?_
   refine qP_ 5 52 23 62 ?_
   refine qP_ 6 53 23 126 ?_
   refine qP_ 7 54 23 254 ?_
   refine qP_ 9 56 23 766 ?_
   refine qP_ 12 59 23 4862 ?_
   refine qP_ 13 60 23 13054 ?_
   refine qP_ 14 61 23 29438 ?_
   refine qP_ 15 62 23 62206 ?_
   refine qP_ 16 63 23 127742 ?_
   refine qP_ 17 64 23 258814 ?_
   refine qP_ 18 65 23 520958 ?_
   refine qP_ 19 66 23 1045246 ?_
   refine qT_ 0 47 23 1045247 ?_
   refine oneP_ 8 (some 55) (b_ 23 1045503) HT (fun K hK => ?_)
   refine goN_ Try.func92 #[.string a1] ?_
   with_reducible refine (spec_HashLeaf.calls _ _ _ _ _ _ _ A7.out).mono ?_
   rintro e w13 ⟨rfl, hb⟩
   refine ⟨_, rfl, ?_⟩
   replace BK0 := bb_ BK0.out hb
   replace HB := s_ hb
   (try clear hb)
   refine hK.out _ _ (hc4_ BK0.out) (fun hHeld => ?_)
   clear hK K
   refine normP_ (some 55) ?_
   refine oneP_ 10 (some 57) (b_ 23 1046527) HT (fun K hK => ?_)
   refine goN_ Try.func91 #[.int .i64 (wrap64 (a2 - t0)), .int .i64 (wrap64 (a0 - t0)), .agg #[.int .u64 t16, .int .u64 t17, .int .u64 t18, .int .u64 t19], .slice (some ad0) y0.length c3] ?_
   with_reducible refine (spec_l3Up.calls _ _ _ _ _ _ _ _ _ _ _ _ _ _ _ ?side1 ?side2 A8.out).mono ?_
   (case side1 => exact cU_ (Kd.C_below HR692.out HB.out))
   (case side2 => exact HC692.out)
   rintro e w14 ⟨rfl, hb⟩
   refine ⟨_, rfl, ?_⟩
   replace BK0 := bb_ BK0.out hb
   replace HB := s_ hb
   (try clear hb)
   refine hK.out _ _ (hc4_ BK0.out) (fun hHeld => ?_)
   clear hK K
   refine normP_ (some 57) ?_
   refine oneP_ 11 (some 58) (b_ 23 1048575) HT (fun K hK => ?_)
   refine goes_ Try.func90 (by kernel_rfl) rfl #[.agg #[.int .u64 ((rd_T29 l3 (ji11)).f0), .int .u64 ((rd_T29 l3 (ji11)).f1), .int .u64 ((rd_T29 l3 (ji11)).f2), .int .u64 ((rd_T29 l3 (ji11)).f3)], .agg #[.int .u64 t20, .int .u64 t21, .int .u64 t22, .int .u64 t23]] (by rfl) rfl rfl (by (try simp only [List.map_toArray, List.map_cons, List.map_nil]); first | done | (simp only [hji11]; rfl) | rfl | (simp only [List.length_drop, List.length_take]; rfl)) ?_
   with_reducible refine (spec_l1PairText.calls _ _ _ _ _ _ _ _ _ _ _ A9.out).mono ?_
   rintro e w15 ⟨rfl, hb⟩
   refine ⟨_, rfl, ?_⟩
   replace BK0 := bb_ BK0.out hb
   replace HB := s_ hb
   (try clear hb)
   refine hK.out _ _ (hc4_ BK0.out) (fun hHeld => ?_)
   clear hK K
   refine normP_ (some 58) ?_
   refine oneP_ 20 (some 67) (b_ 23 2097151) HT (fun K hK => ?_)
   refine goN_ Try.func48 #[.int .i64 (wrap64 (a2 - t0)), .int .i64 (wrap64 (a0 - t0)), .string a1, .slice (some ad0) y0.length c3] ?_
   with_reducible refine (ih k (by omega) (wrap64 (a2 - t0)) (wrap64 (a0 - t0)) a1 _ _ y0 t2 _ ?side1 ?side2 A10.out).mono ?_
   (case side1 => exact cU_ (Kd.C_below HR692.out HB.out))
   (case side2 => exact HC692.out)
   rintro e w16 ⟨v3, rfl, ho0, hb⟩
   refine ⟨_, rfl, ?_⟩
   have HO1 := a_ (Kd.R_lower ho0 (below_size bel_))
   replace BK0 := bb_ BK0.out hb
   replace HB := s_ hb
   (try clear hb); (try clear ho0)
   obtain ⟨Ao1, co1, eo1⟩ := Kd.R_slice HO1.out
   (first | subst eo1 | (injection eo1 with f1_ f2_ f3_; have f4_ := f1_.symm; have f5_ := f3_.symm; clear f1_ f2_ f3_; subst f4_; subst f5_))
   refine hK.out _ _ (hc4_ BK0.out) (fun hHeld => ?_)
   clear hK K
   refine normP_ (some 67) ?_
   refine oneP_ 21 (some 68) (b_ 23 4194303) HT (fun K hK => ?_)
   refine goN_ Try.func89 #[.string t5, .slice Ao1 t2.length co1] ?_
   with_reducible refine (spec_l4Behind.calls _ _ _ _ _ _ _ ?side1 ?side2 A11.out).mono ?_
   (case side1 => exact cU_ (Kd.R_reads' HO1.out).2.2)
   (case side2 => exact (Kd.R_reads' HO1.out).2.1)
   rintro e w17 ⟨v4, rfl, ho0, hb⟩
   refine ⟨_, rfl, ?_⟩
   have HO4 := a_ (Kd.R_lower (Kd.R_new' ho0 (Kd.R_lt (kdU_ HO1.out))) (below_size bel_))
   replace HO1 := a_ (Kd.R_elder' (kdU_ HO1.out) (Kd.R_base ho0) hb)
   replace BK0 := bb_ BK0.out hb
   replace HB := s_ hb
   (try clear hb); (try clear ho0)
   refine hK.out _ _ (hc4_ BK0.out) (fun hHeld => ?_)
   clear hK K
   refine normP_ (some 68) ?_
   refine qP_ 22 8 23 8388607 ?_
   refine done_ (done_of HT.out (by kernel_rfl)) ?_
   try go_wp2
   go_ret
   exact ⟨_, by first | rfl | (simp [errW_none, errW_some] <;> rfl) | (simp only [← hji11]; first | rfl | (simp [errW_none, errW_some] <;> rfl)) | (simp [*, errW_none, errW_some] <;> rfl), uR_ (Kd.R_mono HO4.out (fun _ hk => trivial)), bel_⟩
end
section
def impl_ClashRow.l0 : Nat → ByteArray → List (S128) → List ByteArray → Int → Option (List ByteArray × Bool)
 | 0, _, _, _, _ => none
 | k + 1, x3, x1, x2, x0 => if x0 ≥ 0 then (if 0 ≤ x0 then (if x0 < (x1.length : Int) then ((impl_pairText.f k ((rd_T128 x1 x0).f0.f0) ((rd_T128 x1 x0).f0.f1) ((rd_T128 x1 x0).f0.f2) ((rd_T128 x1 x0).f0.f3) ((rd_T128 x1 x0).f1.f0) ((rd_T128 x1 x0).f1.f1) ((rd_T128 x1 x0).f1.f2) ((rd_T128 x1 x0).f1.f3)).bind fun t0 => (if x2.length < 8796093022208 then (impl_ClashRow.l0 k x3 x1 (x2 ++ [t0]) (wrap64 (x0 - 1))) else (none))) else (none)) else (none)) else ((impl_leafText.f x3).bind fun t1 => (if x2.length < 8796093022208 then ((impl_copied_string.f (x2 ++ [t1])).bind fun t2 => (some (t2, true))) else (none)))
def impl_ClashRow.f (k : Nat) (a1 a2 : Int) (a0 : ByteArray) (l3 : List (S29)) : Option (List ByteArray × Bool) := (impl_pathOk.f k a1 a2 a0 l3).bind fun t1 => (if t1 = true then ((impl_pathPairs.f k a1 a2 a0 l3).bind fun t0 => (impl_ClashRow.l0 k a0 t0 ([] : List ByteArray) (wrap64 ((t0.length : Int) - 1)))) else (some (([] : List ByteArray), false)))
def impl_ClashRow.T8 : TT_ := (true, [([], []), ([], []), ([], []), ([1, 2], [1, 2]), ([3], [3]), ([4], [4]), ([], []), ([], []), ([6, 7], [6, 7]), ([8], [8]), ([9], [9]), ([5, 10], [5, 10]), ([11], [11]), ([0, 12, 11], [0, 12]), ([13, 13, 0, 1, 2, 3, 4, 5, 6, 7, 8, 9, 10, 11, 12, 13], [0, 13])])
def impl_ClashRow.B8 : List Nat := [0, 0, 0, 6, 14, 30, 0, 0, 192, 448, 960, 2046, 4094, 8191, 16383]
theorem impl_ClashRow.tab8 : rtab .any (opsOf Try.f52 8) = impl_ClashRow.T8 := by kernel_rfl
theorem impl_ClashRow.bits8 : waitsOk impl_ClashRow.T8.2 impl_ClashRow.B8 = true := by kernel_rfl
theorem impl_ClashRow.calls (k : Nat) (a1 a2 : Int) (a0 : ByteArray) (A0 : Option Addr) (c3 : Nat) (l3 : List (S29)) (r0 : List ByteArray) (r1 : Bool) (w : World) (hr3 : Kd.C k29 w A0 l3.length l3) (hc3 : l3.length ≤ c3) (h : impl_ClashRow.f k a1 a2 a0 l3 = some (r0, r1)) :
  Calls Try.prog 52 #[.int .i64 a1, .int .i64 a2, .string a0, .slice A0 l3.length c3] w fun e w' => ∃ v0_ : Value, e = .returned (.tuple #[v0_, .bool r1]) ∧ Kd.R Kd.string 9 w' w.heap.size (fun _ => True) v0_ r0 ∧ Below w.heap.size w w' := by
 have hu29 := Try.underlying29
 have HR3 := a_ hr3
 have HC3 := a_ hc3
 clear hr3 hc3
 have HB := rB_ w
 have H := h
 unfold impl_ClashRow.f at H
 clear h
 obtain ⟨t4, A1, H⟩ := bnd_ H
 by_cases c6 : t4 = true
 ·subst c6
  rw [if_pos rfl] at H
  obtain ⟨t0, A5, H⟩ := bnd_ H
  have H' := a_ H
  clear H
  go_enter Try.func52, Try.ntmps52
  go_wp2_with (first | (refine gcB_ 96 17 Try.func96 (impl_pathOk.calls _ _ _ _ _ _ _ _ _ ?side1 ?side2 A1.out) ?_; (case side1 => repeat (first | exact HR3.out | (with_reducible refine Kd.C_alloc ?_ _) | (with_reducible refine Kd.C_drewN ?_ _) | (with_reducible refine Kd.C_drew ?_))); (case side2 => exact HC3.out); intro w8 hb; replace HB := s_ hb; clear hb) | (refine gcL_ 97 (some 23) Try.func97 #[.int .i64 a1, .int .i64 a2, .string a0, .slice A0 l3.length c3] ?_; (with_reducible refine (impl_pathPairs.calls _ _ _ _ _ _ _ _ _ ?side1 ?side2 A5.out).mono ?_); (case side1 => exact cU_ (Kd.C_below HR3.out HB.out)); (case side2 => exact HC3.out); rintro e w7 ⟨v2, rfl, ho0, hb⟩; refine ⟨_, rfl, ?_⟩; have HO1 := a_ (Kd.R_lower ho0 (below_size bel_)); replace HB := s_ hb; clear hb; (try clear ho0); obtain ⟨Ao0, co0, eo0⟩ := Kd.R_slice HO1.out; subst eo0))
  go_loopg [11, 12] k (fun kq v0 v1 w' => ∃ (x1 : List ByteArray) (x0 : Int), v1 = .int .i64 x0 ∧ Aside0 (impl_ClashRow.l0 kq a0 t0 x1 x0 = some (r0, r1)) ∧ Aside0 (kq ≤ k) ∧ Aside0 (Kd.R k128 128 w' w.heap.size (fun _ => True) (.slice Ao0 t0.length co0) t0) ∧ Aside0 (Kd.R Kd.string 9 w' w.heap.size (fun _ => True) v0 x1) ∧ Aside0 (Below w.heap.size w w'))
  case atStart => exact ⟨(([] : List ByteArray)), (wrap64 ((t0.length : Int) - 1)), rl_, H', ⟨Nat.le_refl _⟩, ⟨kdU_ HO1.out⟩, ⟨by first | exact Kd.R_nil _ _ _ _ _ | exact Kd.N_nil _ _ _ _ _ | exact Kd.V_nil _ _ _ _ _ | exact Kd.Q_nil _ _ _ _ _ | exact Kd.S_nil _ _ _ _ _⟩, ⟨bel_⟩⟩
  case round =>
   clear H'
   (try clear c3); (try clear c6)
   obtain ⟨x1, x0, rfl, HA, HK1, HO_0, HO_1, HB⟩ := hrel
   cases gk with
   | zero => exact absurd HA.out (by simp [impl_ClashRow.l0])
   | succ k1 =>
    have H := HA.out
    clear HA
    simp only [impl_ClashRow.l0] at H
    by_cases c0 : x0 ≥ 0
    ·rw [if_pos c0] at H
     have c12 : decide (0 ≤ x0) = true := decide_eq_true c0
     clear c0
     obtain ⟨c13, H⟩ := ifd_ H
     obtain ⟨c14, H⟩ := ifd_ H
     obtain ⟨t1, A2, H⟩ := bnd_ H
     obtain ⟨c1, H⟩ := ifn_ H
     have LMc0 := a_ c1
     clear c1
     obtain ⟨y0, hy0⟩ : ∃ y_ : List ByteArray, y_ = (x1 ++ [t1]) := ⟨_, rfl⟩
     replace H : (impl_ClashRow.l0 k1 a0 t0 y0 (wrap64 (x0 - 1))) = some (r0, r1) := rpl_ hy0 H
     have Ny0 := a_ hy0
     clear hy0
     have H' := a_ H
     clear H
     try go_wp2
     replace HO_0 := a_ (Kd.R_drew HO_0.out)
     replace HO_1 := a_ (Kd.R_drew HO_1.out)
     replace HB := a_ (below_drew1 HB.out)
     have p0 : 0 ≤ (x0 : Int) := ofd_
     have q0 : x0 < (t0.length : Int) := ofd_
     obtain ⟨ad0, e0, hx0, hx1, hx2, hx3, hx4, hx5, hx6, hx7⟩ := at_T128 (Kd.R_reads' HO_0.out).2.2 x0 p0 q0
     cases e0
     replace p0 := eq_true p0
     replace q0 := eq_true q0
     have p1 : 0 ≤ (x0 : Int) := ofd_
     have q1 : x0 < (t0.length : Int) := ofd_
     obtain ⟨ad1, e1, hx8, hx9, hx10, hx11, hx12, hx13, hx14, hx15⟩ := at_T128 (Kd.R_reads' HO_0.out).2.2 x0 p1 q1
     obtain rfl : ad0 = ad1 := (by injection e1)
     replace p1 := eq_true p1
     replace q1 := eq_true q1
     refine start_ (n := 15) (S := fun w' => w'.cell? (ad0.add ((x0).toNat * 8)) = some (.int .u64 ((rd_T128 t0 x0).f0.f0)) ∧ w'.cell? ⟨(ad0.add ((x0).toNat * 8)).block, (ad0.add ((x0).toNat * 8)).off + 1, none⟩ = some (.int .u64 ((rd_T128 t0 x0).f0.f1)) ∧ w'.cell? ⟨(ad0.add ((x0).toNat * 8)).block, (ad0.add ((x0).toNat * 8)).off + 2, none⟩ = some (.int .u64 ((rd_T128 t0 x0).f0.f2)) ∧ w'.cell? ⟨(ad0.add ((x0).toNat * 8)).block, (ad0.add ((x0).toNat * 8)).off + 3, none⟩ = some (.int .u64 ((rd_T128 t0 x0).f0.f3)) ∧ w'.cell? ⟨(ad0.add ((x0).toNat * 8)).block, (ad0.add ((x0).toNat * 8)).off + 4, none⟩ = some (.int .u64 ((rd_T128 t0 x0).f1.f0)) ∧ w'.cell? ⟨(ad0.add ((x0).toNat * 8)).block, (ad0.add ((x0).toNat * 8)).off + 5, none⟩ = some (.int .u64 ((rd_T128 t0 x0).f1.f1)) ∧ w'.cell? ⟨(ad0.add ((x0).toNat * 8)).block, (ad0.add ((x0).toNat * 8)).off + 6, none⟩ = some (.int .u64 ((rd_T128 t0 x0).f1.f2)) ∧ w'.cell? ⟨(ad0.add ((x0).toNat * 8)).block, (ad0.add ((x0).toNat * 8)).off + 7, none⟩ = some (.int .u64 ((rd_T128 t0 x0).f1.f3)) ∧ w'.cell? (ad0.add ((x0).toNat * 8)) = some (.int .u64 ((rd_T128 t0 x0).f0.f0)) ∧ w'.cell? ⟨(ad0.add ((x0).toNat * 8)).block, (ad0.add ((x0).toNat * 8)).off + 1, none⟩ = some (.int .u64 ((rd_T128 t0 x0).f0.f1)) ∧ w'.cell? ⟨(ad0.add ((x0).toNat * 8)).block, (ad0.add ((x0).toNat * 8)).off + 2, none⟩ = some (.int .u64 ((rd_T128 t0 x0).f0.f2)) ∧ w'.cell? ⟨(ad0.add ((x0).toNat * 8)).block, (ad0.add ((x0).toNat * 8)).off + 3, none⟩ = some (.int .u64 ((rd_T128 t0 x0).f0.f3)) ∧ w'.cell? ⟨(ad0.add ((x0).toNat * 8)).block, (ad0.add ((x0).toNat * 8)).off + 4, none⟩ = some (.int .u64 ((rd_T128 t0 x0).f1.f0)) ∧ w'.cell? ⟨(ad0.add ((x0).toNat * 8)).block, (ad0.add ((x0).toNat * 8)).off + 5, none⟩ = some (.int .u64 ((rd_T128 t0 x0).f1.f1)) ∧ w'.cell? ⟨(ad0.add ((x0).toNat * 8)).block, (ad0.add ((x0).toNat * 8)).off + 6, none⟩ = some (.int .u64 ((rd_T128 t0 x0).f1.f2)) ∧ w'.cell? ⟨(ad0.add ((x0).toNat * 8)).block, (ad0.add ((x0).toNat * 8)).off + 7, none⟩ = some (.int .u64 ((rd_T128 t0 x0).f1.f3))) (ds := [12, 13]) #[false, false, false, false, false, false, false, false, false, false, false, false, false, false, false] (by kernel_rfl) rfl rfl ⟨hx0, hx1, hx2, hx3, hx4, hx5, hx6, hx7, hx8, hx9, hx10, hx11, hx12, hx13, hx14, hx15⟩ (fun hHeld => ?_); refine with_tabW impl_ClashRow.tab8 impl_ClashRow.bits8 (fun HT HW_ => ?_)
     generalize wr.drew = w1 at HO_0 HO_1 HB hx0 hx1 hx2 hx3 hx4 hx5 hx6 hx7 hx8 hx9 hx10 hx11 hx12 hx13 hx14 hx15 hHeld ⊢
     refine qP_ 0 31 15 1 ?_
     refine qP_ 1 32 15 3 ?_
     refine qP_ 2 33 15 7 ?_
     refine qP_ 3 34 15 15 ?_
     refine qP_ 4 35 15 31 ?_
     refine qP_ 6 37 15 95 ?_
     refine qP_ 7 38 15 223 ?_
     refine qP_ 8 39 15 479 ?_
     refine qP_ 9 40 15 991 ?_
     refine qT_ 5 36 15 1023 ?_
     refine qT_ 10 41 15 2047 ?_
     refine oneP_ 11 (some 42) (b_ 15 4095) HT (fun K hK => ?_)
     refine goN_ Try.func98 #[.agg #[.int .u64 ((rd_T128 t0 x0).f0.f0), .int .u64 ((rd_T128 t0 x0).f0.f1), .int .u64 ((rd_T128 t0 x0).f0.f2), .int .u64 ((rd_T128 t0 x0).f0.f3)], .agg #[.int .u64 ((rd_T128 t0 x0).f1.f0), .int .u64 ((rd_T128 t0 x0).f1.f1), .int .u64 ((rd_T128 t0 x0).f1.f2), .int .u64 ((rd_T128 t0 x0).f1.f3)]] ?_
     with_reducible refine (impl_pairText.calls _ _ _ _ _ _ _ _ _ _ _ A2.out).mono ?_
     rintro e w2 ⟨rfl, hb⟩
     have HS0_ := (hb.cell (World.block_lt_of_cell? _ _ (hHeld.1))).trans (hHeld.1)
     have HS1_ := (hb.cell (World.block_lt_of_cell? _ _ (hHeld.2.1))).trans (hHeld.2.1)
     have HS2_ := (hb.cell (World.block_lt_of_cell? _ _ (hHeld.2.2.1))).trans (hHeld.2.2.1)
     have HS3_ := (hb.cell (World.block_lt_of_cell? _ _ (hHeld.2.2.2.1))).trans (hHeld.2.2.2.1)
     have HS4_ := (hb.cell (World.block_lt_of_cell? _ _ (hHeld.2.2.2.2.1))).trans (hHeld.2.2.2.2.1)
     have HS5_ := (hb.cell (World.block_lt_of_cell? _ _ (hHeld.2.2.2.2.2.1))).trans (hHeld.2.2.2.2.2.1)
     have HS6_ := (hb.cell (World.block_lt_of_cell? _ _ (hHeld.2.2.2.2.2.2.1))).trans (hHeld.2.2.2.2.2.2.1)
     have HS7_ := (hb.cell (World.block_lt_of_cell? _ _ (hHeld.2.2.2.2.2.2.2.1))).trans (hHeld.2.2.2.2.2.2.2.1)
     have HS8_ := (hb.cell (World.block_lt_of_cell? _ _ (hHeld.2.2.2.2.2.2.2.2.1))).trans (hHeld.2.2.2.2.2.2.2.2.1)
     have HS9_ := (hb.cell (World.block_lt_of_cell? _ _ (hHeld.2.2.2.2.2.2.2.2.2.1))).trans (hHeld.2.2.2.2.2.2.2.2.2.1)
     have HS10_ := (hb.cell (World.block_lt_of_cell? _ _ (hHeld.2.2.2.2.2.2.2.2.2.2.1))).trans (hHeld.2.2.2.2.2.2.2.2.2.2.1)
     have HS11_ := (hb.cell (World.block_lt_of_cell? _ _ (hHeld.2.2.2.2.2.2.2.2.2.2.2.1))).trans (hHeld.2.2.2.2.2.2.2.2.2.2.2.1)
     have HS12_ := (hb.cell (World.block_lt_of_cell? _ _ (hHeld.2.2.2.2.2.2.2.2.2.2.2.2.1))).trans (hHeld.2.2.2.2.2.2.2.2.2.2.2.2.1)
     have HS13_ := (hb.cell (World.block_lt_of_cell? _ _ (hHeld.2.2.2.2.2.2.2.2.2.2.2.2.2.1))).trans (hHeld.2.2.2.2.2.2.2.2.2.2.2.2.2.1)
     have HS14_ := (hb.cell (World.block_lt_of_cell? _ _ (hHeld.2.2.2.2.2.2.2.2.2.2.2.2.2.2.1))).trans (hHeld.2.2.2.2.2.2.2.2.2.2.2.2.2.2.1)
     have HS15_ := (hb.cell (World.block_lt_of_cell? _ _ (hHeld.2.2.2.2.2.2.2.2.2.2.2.2.2.2.2))).trans (hHeld.2.2.2.2.2.2.2.2.2.2.2.2.2.2.2)
     refine ⟨_, rfl, ?_⟩
     replace HO_0 := rb_ HO_0.out hb
     replace HO_1 := rb_ HO_1.out hb
     replace HB := s_ hb
     (try clear hb)
     refine hK.out _ _ ⟨HS0_, HS1_, HS2_, HS3_, HS4_, HS5_, HS6_, HS7_, HS8_, HS9_, HS10_, HS11_, HS12_, HS13_, HS14_, HS15_⟩ (fun hHeld => ?_)
     clear hK K
     refine normP_ (some 42) ?_
     refine last_ (i := 12) (N := some 43) (b_ 15 8191) rfl rfl (one_of HT.out (by kernel_rfl)) (by decide) (fun K hK => ?_)
     refine value_ (w1 := ?_) (v := ?_) (by rfl) rfl ?_ ?_
     rotate_left 2
     ·go_simp
      constructor
      ·rfl
      ·rfl
     refine hK.out _ _ ?_
     clear hK K
     refine normP_ (some 43) ?_
     refine last_ (i := 13) (N := some 44) (b_ 15 16383) rfl rfl (one_of HT.out (by kernel_rfl)) (by decide) (fun K hK => ?_)
     refine Kd.R_append_step Kd.string (w0 := w) w.heap.size (by rfl) (.tmp 31) (.tmp 43) 61 9 (.string ⟨#[]⟩) 16 rfl Try.underlying61 info9 rfl (by decide) (by omega) u11 x1 t1 [.string t1] (fun _ => True) (fun _ => False) rfl rfl ?aP (fun _ hk => hk.elim) ?aF ?aO ?aB ?aS ?aL ?_
     (case aP => exact rfl)
     (case aB => exact bel_)
     (case aF => exact (fun _ _ => trivial))
     (case aO => exact (kdU_ HO_1.out))
     (case aS => exact (below_size bel_))
     (case aL => have := LMc0.out; omega)
     intro v3 w3 ho hb hg hat
     rw [← Ny0.out] at ho
     replace HO_0 := a_ (Kd.R_over' (kdU_ HO_0.out) (Kd.R_typed (kdU_ HO_1.out)) (by decide) hg)
     replace HB := a_ (hb)
     have HO2 := a_ (ho)
     clear HO_1
     clear ho hb hg hat
     refine hK.out _ _ ?_
     clear hK K
     refine normP_ (some 44) ?_
     refine qP_ 14 11 15 32767 ?_
     refine done_ (done_of HT.out (by kernel_rfl)) ?_
     try go_wp2
     go_roundg k1
     case measure => have := HK1.out; omega
     case rel => exact ⟨(y0), (wrap64 (x0 - 1)), rl_, H', ⟨by have := HK1.out; omega⟩, ⟨kdU_ HO_0.out⟩, ⟨kdU_ HO2.out⟩, ⟨bel_⟩⟩
    ·rw [if_neg c0] at H
     have c12 : decide (0 ≤ x0) = false := decide_eq_false c0
     clear c0
     obtain ⟨t2, A3, H⟩ := bnd_ H
     obtain ⟨c11, H⟩ := ifn_ H
     have LMc1 := a_ c11
     clear c11
     obtain ⟨y1, hy1⟩ : ∃ y_ : List ByteArray, y_ = (x1 ++ [t2]) := ⟨_, rfl⟩
     replace H : ((impl_copied_string.f y1).bind fun t3 => (some (t3, true))) = some (r0, r1) := rpl_ hy1 H
     have Ny1 := a_ hy1
     clear hy1
     obtain ⟨t3, A4, H⟩ := bnd_ H
     simp only [Option.some.injEq, Prod.mk.injEq] at H
     obtain ⟨rfl, rfl⟩ := H
     go_wp2_with (first | (refine gcD_ 100 47 Try.func100 (impl_leafText.calls _ _ _ A3.out) ?_; intro nd) | ((with_reducible refine gate_builtin (b := .append) (xs := #[.tmp 45, .tmp 48]) rfl ?_); at_builtin; refine Kd.R_append Kd.string (w0 := w) w.heap.size rfl (.tmp 45) (.tmp 48) 61 9 (.string ⟨#[]⟩) 16 rfl Try.underlying61 info9 rfl (by decide) (by omega) u11 x1 t2 [.string t2] (fun _ => True) (fun _ => False) rfl rfl ?aP (fun _ hk => hk.elim) ?aF ?aO ?aB ?aS ?aL ?_; (case aP => exact rfl); (case aB => exact bel_); (case aF => exact (fun _ _ => trivial)); (case aO => exact (kdU_ HO_1.out)); (case aS => exact (below_size bel_)); (case aL => have := LMc1.out; omega); intro v4 w4 ho hb hg hat; rw [← Ny1.out] at ho; replace HO_0 := a_ (Kd.R_over' (kdU_ HO_0.out) (Kd.R_typed (kdU_ HO_1.out)) (by decide) hg); replace HB := a_ (hb); have HO0 := a_ (ho); clear HO_1; clear ho hb hg hat; obtain ⟨Ao1, co1, eo1⟩ := Kd.R_slice HO0.out; subst eo1) | (refine gcL_ 99 (some 50) Try.func99 #[.slice Ao1 y1.length co1] ?_; (with_reducible refine (impl_copied_string.calls _ _ _ _ _ ?side1 ?side2 A4.out).mono ?_); (case side1 => exact cU_ (Kd.R_reads' HO0.out).2.2); (case side2 => exact (Kd.R_reads' HO0.out).2.1); rintro e w5 ⟨v5, rfl, ho0, hb⟩; refine ⟨_, rfl, ?_⟩; replace HO_0 := rb_ HO_0.out hb; have HO3 := a_ (Kd.R_lower (Kd.R_new' ho0 (Kd.R_lt (kdU_ HO0.out))) (below_size bel_)); replace HO0 := a_ (Kd.R_elder' (kdU_ HO0.out) (Kd.R_base ho0) hb); replace HB := s_ hb; clear hb; (try clear ho0)))
     go_ret2
     exact ⟨_, rfl_, uR_ (Kd.R_mono HO3.out (fun _ hk => trivial)), bel_⟩
 ·replace c6 := Bool.eq_false_iff.mpr c6
  subst c6
  rw [if_neg (show ¬ (false = true) by decide)] at H
  simp only [Option.some.injEq, Prod.mk.injEq] at H
  obtain ⟨rfl, rfl⟩ := H
  go_enter Try.func52, Try.ntmps52
  go_wp2_with (first | (refine gcB_ 96 17 Try.func96 (impl_pathOk.calls _ _ _ _ _ _ _ _ _ ?side1 ?side2 A1.out) ?_; (case side1 => repeat (first | exact HR3.out | (with_reducible refine Kd.C_alloc ?_ _) | (with_reducible refine Kd.C_drewN ?_ _) | (with_reducible refine Kd.C_drew ?_))); (case side2 => exact HC3.out); intro w6 hb; replace HB := s_ hb; clear hb))
  go_ret2
  exact ⟨_, rfl_, by first | exact Kd.R_nil _ _ _ _ _ | exact Kd.N_nil _ _ _ _ _ | exact Kd.V_nil _ _ _ _ _ | exact Kd.Q_nil _ _ _ _ _ | exact Kd.S_nil _ _ _ _ _, bel_⟩
end
section
attribute [local go_sem high] eqA29
def impl_ClashOfPaths.j0 : Nat → Int → Int → ByteArray → List (S29) → ByteArray → List (S29) → Bool → Option (ByteArray × ByteArray × Bool)
 | 0, _, _, _, _, _, _, _ => none
 | k + 1, x0, x1, x2, x3, x4, x6, x5 => if x5 = true then (some ((⟨#[]⟩ : ByteArray), (⟨#[]⟩ : ByteArray), false)) else ((impl_ClashRow.f k x0 x1 x2 x3).bind fun bt1 => ((impl_ClashRow.f k x0 x1 x4 x6).bind fun bt2 => ((impl_ClashFirst.f k bt1.1 bt2.1).bind fun bt0 => (some (bt0.1, bt0.2.1, bt0.2.2)))))
def impl_ClashOfPaths.f (k : Nat) (a0 a1 : Int) (a2 : ByteArray) (l3 : List (S29)) (a3 : ByteArray) (l4 : List (S29)) : Option (ByteArray × ByteArray × Bool) := (impl_PathRoot.f k a0 a1 a2 l3).bind fun bt0 => ((impl_PathRoot.f k a0 a1 a3 l4).bind fun bt1 => (if bt0.2.2.2.2 = true then (if bt1.2.2.2.2 = true then (impl_ClashOfPaths.j0 k a0 a1 a2 l3 a3 l4 (!(bt0.1 == bt1.1) || (!(bt0.2.1 == bt1.2.1) || (!(bt0.2.2.1 == bt1.2.2.1) || (!(bt0.2.2.2.1 == bt1.2.2.2.1)))))) else (impl_ClashOfPaths.j0 k a0 a1 a2 l3 a3 l4 true)) else (impl_ClashOfPaths.j0 k a0 a1 a2 l3 a3 l4 true)))
theorem impl_ClashOfPaths.calls (k : Nat) (a0 a1 : Int) (a2 : ByteArray) (A0 : Option Addr) (c3 : Nat) (l3 : List (S29)) (a3 : ByteArray) (A1 : Option Addr) (c5 : Nat) (l4 : List (S29)) (r0 r1 : ByteArray) (r2 : Bool) (w : World) (hr3 : Kd.C k29 w A0 l3.length l3) (hc3 : l3.length ≤ c3) (hr5 : Kd.C k29 w A1 l4.length l4) (hc5 : l4.length ≤ c5) (h : impl_ClashOfPaths.f k a0 a1 a2 l3 a3 l4 = some (r0, r1, r2)) :
  Calls Try.prog 57 #[.int .i64 a0, .int .i64 a1, .string a2, .slice A0 l3.length c3, .string a3, .slice A1 l4.length c5] w fun e w' => e = .returned (.tuple #[.agg #[.string r0, .string r1], .bool r2]) ∧ Below w.heap.size w w' := by
 have hu46 := Try.underlying46
 have hu29 := Try.underlying29
 have HR3 := a_ hr3
 have HC3 := a_ hc3
 clear hr3 hc3
 have HR5 := a_ hr5
 have HC5 := a_ hc5
 clear hr5 hc5
 have HB := rB_ w
 have H := h
 unfold impl_ClashOfPaths.f at H
 clear h
 obtain ⟨⟨t0, t1, t2, t3, t8⟩, A5, H⟩ := bnd_ H
 dsimp only at H
 obtain ⟨⟨t4, t5, t6, t7, t9⟩, A6, H⟩ := bnd_ H
 dsimp only at H
 have HC9 := a_ H
 clear H
 go_enter Try.func57, Try.ntmps57
 go_upto_region 3 with (first | ((with_reducible refine gate_dst (N := 12) rfl ?_); refine boxE_ (cs := #[.string (⟨#[]⟩ : ByteArray), .string (⟨#[]⟩ : ByteArray)]) (t := 46) ?_; intro gb0 hg w1 hbox hb; have BK0 := a_ (hbox); have GW0 := sizeB_ hg; replace HB := s_ hb; clear hb hbox hg) | (refine gcB_ 95 27 Try.func95 (impl_PathRoot.calls _ _ _ _ _ _ _ _ _ _ _ _ _ ?side1 ?side2 A5.out) ?_; (case side1 => exact cU_ (Kd.C_below HR3.out HB.out)); (case side2 => exact HC3.out); intro w2 hb; replace BK0 := bb_ BK0.out hb; replace HB := s_ hb; clear hb) | ((with_reducible refine gate_dst (N := 14) rfl ?_); refine boxE_ (cs := #[.int .u64 0, .int .u64 0, .int .u64 0, .int .u64 0]) (t := 29) ?_; intro gb1 hg w3 hbox hb; have BK1 := a_ (hbox); have GW1 := sizeB_ hg; replace HB := s_ hb; obtain ⟨NB0, NB2⟩ := ne2_ BK0.out hg; replace BK0 := bb_ BK0.out hb; clear hb hbox hg; have hnb0 := NB2.out; have hnc0 := NB0.out; obtain ⟨z0, z1, z2, z3, f0, f1, f2, f3⟩ := cz4_ BK1.out) | (refine gcB_ 95 35 Try.func95 (impl_PathRoot.calls _ _ _ _ _ _ _ _ _ _ _ _ _ ?side1 ?side2 A6.out) ?_; (case side1 => exact Kd.C_below HR5.out bel_); (case side2 => exact HC5.out); intro w4 hb; replace BK0 := bb_ BK0.out hb; replace BK1 := blkPB_ (cs := #[.int .u64 t0, .int .u64 t1, .int .u64 t2, .int .u64 t3]) BK1.out hb; replace HB := s_ hb; clear hb) | ((with_reducible refine gate_dst (N := 16) rfl ?_); refine boxE_ (cs := #[.int .u64 0, .int .u64 0, .int .u64 0, .int .u64 0]) (t := 29) ?_; intro gb2 hg w5 hbox hb; have BK2 := a_ (hbox); have GW2 := sizeB_ hg; replace HB := s_ hb; obtain ⟨NB1, NB3⟩ := ne2_ BK0.out hg; replace BK0 := bb_ BK0.out hb; obtain ⟨NB4, NB5⟩ := ne2_ BK1.out hg; replace BK1 := bb_ BK1.out hb; clear hb hbox hg; have hnb1 := NB3.out; have hnc1 := NB1.out; have hnb2 := NB5.out; have hnc2 := NB4.out; obtain ⟨z4, z5, z6, z7, f4, f5, f6, f7⟩ := cz4_ BK2.out))
 (try simp only [Act.put, List.setIfInBounds_toArray, List.set_cons_zero, List.set_cons_succ])
 go_cut [48] (fun v0 wc => ∃ (kq : Nat) (x0 : Bool), v0 = .bool x0 ∧ Aside0 (impl_ClashOfPaths.j0 kq a0 a1 a2 l3 a3 l4 x0 = some (r0, r1, r2)) ∧ Aside0 (kq ≤ k) ∧ Aside0 (wc.heap[gb0]? = some (.cells #[.string (⟨#[]⟩ : ByteArray), .string (⟨#[]⟩ : ByteArray)] 46 (0, 0))) ∧ Aside0 (wc.heap[gb1]? = some (.cells #[.int .u64 t0, .int .u64 t1, .int .u64 t2, .int .u64 t3] 29 (0, 0))) ∧ Aside0 (wc.heap[gb2]? = some (.cells #[.int .u64 t4, .int .u64 t5, .int .u64 t6, .int .u64 t7] 29 (0, 0))) ∧ Aside0 (Below w.heap.size w wc))
 case first =>
  have H := HC9.out
  clear HC9
  by_cases c0 : t8 = true
  ·subst c0
   rw [if_pos rfl] at H
   by_cases c1 : t9 = true
   ·subst c1
    rw [if_pos rfl] at H
    have H' := a_ H
    clear H
    have hnb3 := NB2.out
    have hnc3 := NB0.out
    have hnb4 := NB4.out
    have hnc4 := NB5.out
    obtain ⟨z8, z9, z10, z11, f8, f9, f10, f11⟩ := cz4_ BK1.out
    have hnb5 := NB3.out
    have hnc5 := NB1.out
    obtain ⟨z12, z13, z14, z15, f12, f13, f14, f15⟩ := cz4_ BK2.out
    go_wp2
    go_meet
    case rel => exact ⟨_, ((!(t0 == t4) || (!(t1 == t5) || (!(t2 == t6) || (!(t3 == t7)))))), rl_, H', ⟨by first | omega | exact Nat.le_refl _⟩, ⟨blkU_ BK0.out⟩, ⟨blkU_ BK1.out⟩, ⟨blkF_ BK2.out⟩, ⟨bel_⟩⟩
   ·replace c1 := Bool.eq_false_iff.mpr c1
    subst c1
    rw [if_neg (show ¬ (false = true) by decide)] at H
    have H' := a_ H
    clear H
    go_wp2
    go_meet
    case rel => exact ⟨_, (true), rl_, H', ⟨by first | omega | exact Nat.le_refl _⟩, ⟨blkU_ BK0.out⟩, ⟨blkU_ BK1.out⟩, ⟨blkF_ BK2.out⟩, ⟨bel_⟩⟩
  ·replace c0 := Bool.eq_false_iff.mpr c0
   subst c0
   rw [if_neg (show ¬ (false = true) by decide)] at H
   have H' := a_ H
   clear H
   go_wp2
   go_meet
   case rel => exact ⟨_, (true), rl_, H', ⟨by first | omega | exact Nat.le_refl _⟩, ⟨blkU_ BK0.out⟩, ⟨blkU_ BK1.out⟩, ⟨blkF_ BK2.out⟩, ⟨bel_⟩⟩
 case rest =>
  clear HC9
  (try clear c3); (try clear c5); (try clear c0); (try clear c1); (try clear z0 z1 z2 z3); (try clear z4 z5 z6 z7); (try clear z8 z9 z10 z11); (try clear z12 z13 z14 z15); (try clear f0 f1 f2 f3); (try clear f4 f5 f6 f7); (try clear f8 f9 f10 f11); (try clear f12 f13 f14 f15)
  obtain ⟨kq, x0, rfl, HA, HJ8, BK0, BK1, BK2, HB⟩ := hcut
  cases kq with
  | zero => exact absurd HA.out (by simp [impl_ClashOfPaths.j0])
  | succ kj0 =>
   have H := HA.out
   clear HA
   simp only [impl_ClashOfPaths.j0] at H
   by_cases c11 : x0 = true
   ·subst c11
    rw [if_pos rfl] at H
    simp only [Option.some.injEq, Prod.mk.injEq] at H
    obtain ⟨rfl, rfl, rfl⟩ := H
    have hnb6 := NB0.out
    have hnc6 := NB2.out
    have hnb7 := NB1.out
    have hnc7 := NB3.out
    obtain ⟨z16, z17, f16, f17⟩ := cz2_ BK0.out
    go_wp2
    refine bodyPost_ret (results_ct rfl _ _ gb0 46 #[.string (⟨#[]⟩ : ByteArray), .string (⟨#[]⟩ : ByteArray)] (0, 0) _ rfl (blkF_ BK0.out) Try.underlying46 rfl (by kernel_rfl)) rfl ?_
    exact ⟨rfl_, bel_⟩
   ·replace c11 := Bool.eq_false_iff.mpr c11
    subst c11
    rw [if_neg (show ¬ (false = true) by decide)] at H
    obtain ⟨⟨t12, t13⟩, A2, H⟩ := bnd_ H
    dsimp only at H
    obtain ⟨⟨t14, t15⟩, A3, H⟩ := bnd_ H
    dsimp only at H
    obtain ⟨⟨t10, t11, t16⟩, A4, H⟩ := bnd_ H
    dsimp only at H
    simp only [Option.some.injEq, Prod.mk.injEq] at H
    obtain ⟨rfl, rfl, rfl⟩ := H
    go_wp2_with (first | (refine gcL_ 52 (some 55) Try.func52 #[.int .i64 a0, .int .i64 a1, .string a2, .slice A0 l3.length c3] ?_; (with_reducible refine (impl_ClashRow.calls _ _ _ _ _ _ _ _ _ _ ?side1 ?side2 A2.out).mono ?_); (case side1 => exact cU_ (Kd.C_below HR3.out HB.out)); (case side2 => exact HC3.out); rintro e w6 ⟨v1, rfl, ho0, hb⟩; refine ⟨_, rfl, ?_⟩; have HO0 := a_ (Kd.R_lower ho0 (below_size bel_)); replace BK0 := bb_ BK0.out hb; replace BK1 := bb_ BK1.out hb; replace BK2 := bb_ BK2.out hb; replace HB := s_ hb; clear hb; (try clear ho0)) | (refine gcL_ 52 (some 63) Try.func52 #[.int .i64 a0, .int .i64 a1, .string a3, .slice A1 l4.length c5] ?_; (with_reducible refine (impl_ClashRow.calls _ _ _ _ _ _ _ _ _ _ ?side1 ?side2 A3.out).mono ?_); (case side1 => exact cU_ (Kd.C_below HR5.out HB.out)); (case side2 => exact HC5.out); rintro e w7 ⟨v2, rfl, ho0, hb⟩; refine ⟨_, rfl, ?_⟩; have HO1 := a_ (Kd.R_lower (Kd.R_new' ho0 (Kd.R_lt (kdU_ HO0.out))) (below_size bel_)); replace HO0 := a_ (Kd.R_elder' (kdU_ HO0.out) (Kd.R_base ho0) hb); replace BK0 := bb_ BK0.out hb; replace BK1 := bb_ BK1.out hb; replace BK2 := bb_ BK2.out hb; replace HB := s_ hb; clear hb; (try clear ho0); obtain ⟨Ao0, co0, eo0⟩ := Kd.R_slice HO0.out; subst eo0; obtain ⟨Ao1, co1, eo1⟩ := Kd.R_slice HO1.out; subst eo1) | (refine gcB_ 53 68 Try.func53 (impl_ClashFirst.calls _ _ _ _ _ _ _ _ _ _ _ ?side1 ?side2 ?side3 ?side4 A4.out) ?_; (case side1 => exact cU_ (Kd.R_reads' HO0.out).2.2); (case side2 => exact (Kd.R_reads' HO0.out).2.1); (case side3 => exact cU_ (Kd.R_reads' HO1.out).2.2); (case side4 => exact (Kd.R_reads' HO1.out).2.1); intro w9 hb; replace HO0 := rb_ HO0.out hb; replace HO1 := rb_ HO1.out hb; replace BK0 := bb_ BK0.out hb; replace BK1 := bb_ BK1.out hb; replace BK2 := bb_ BK2.out hb; replace HB := s_ hb; clear hb; have hnb8 := NB0.out; have hnc8 := NB2.out; have hnb9 := NB1.out; have hnc9 := NB3.out; obtain ⟨z18, z19, f18, f19⟩ := cz2_ BK0.out))
    refine bodyPost_ret (results_ct rfl _ _ gb0 46 #[.string t10, .string t11] (0, 0) _ rfl (blkF_ BK0.out) Try.underlying46 rfl (by kernel_rfl)) rfl ?_
    exact ⟨rfl_, bel_⟩
end
end
end Go.Proofs.Ytflckegggopdnaa.B
