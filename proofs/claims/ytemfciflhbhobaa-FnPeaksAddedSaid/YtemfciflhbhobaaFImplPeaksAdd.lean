/- What the Go functions loop.example/belfry/impl.PeaksAdd do is what the Lean functions .f of their names here say; condition: .f gives an answer. (Written by the session's program pp.py over the kit's print; Lean checks it.) -/
import Derived.Test.YtemfciflhbhobaaK
import Derived.Test.YtemfciflhbhobaaM
import Derived.Test.YtemfciflhbhobaaGCount1
import Derived.Test.YtemfciflhbhobaaGImplPair1
import Derived.Test.YtemfciflhbhobaaGSplit1
import Derived.Test.YtemfciflhbhobaaHCopiedD
namespace Go.Proofs.Ytemfciflhbhobaa.B
open Go.RowKit Go.Proofs.YtemfciflhbhobaaW.PrintWords Go.Proofs.YtemfciflhbhobaaW.PrintLast Go.Proofs.YtemfciflhbhobaaW.PrintMore
attribute [local go_sem] max2_int min2_int max_two min_two max_three min_three max_four min_four   -- for this text's walks alone
set_option linter.unusedVariables false
set_option linter.unusedSimpArgs false

section
/-! ### impl_PeaksAdd: function 58 -/
mutual
def impl_PeaksAdd.j0 : Nat → Int → List (S29) → ByteArray → Bool → Option ((List (S29)) × Bool)
  | 0, _, _, _, _ => none
  | k + 1, x0, x1, x2, x24 => if x24 = true then (some (([] : List (S29)), false)) else ((some (([] : List (S29)) : List (S29))).bind fun y1274 => (if y1274.length + x1.length < 4398046511104 then ((some (y1274 ++ x1 : List (S29))).bind fun y1277 => ((impl_HashLeaf.f k x2).bind fun bt1280 => (if y1277.length < 4398046511104 then (impl_PeaksAdd.l0 k x0 (y1277 ++ [(⟨bt1280.1, bt1280.2.1, bt1280.2.2.1, bt1280.2.2.2⟩ : S29)])) else (none)))) else (none)))
def impl_PeaksAdd.l0 : Nat → Int → List (S29) → Option ((List (S29)) × Bool)
  | 0, _, _ => none
  | k + 1, x0, x8 => if (Int.tmod x0 2) = 1 then (if 0 ≤ (wrap64 ((x8.length : Int) - 2)) then (if (wrap64 ((x8.length : Int) - 2)) < (x8.length : Int) then (if 0 ≤ (wrap64 ((wrap64 ((x8.length : Int) - 2)) + 1)) then (if (wrap64 ((wrap64 ((x8.length : Int) - 2)) + 1)) < (x8.length : Int) then (if (wrap64 ((x8.length : Int) - 2)) ≤ (x8.length : Int) then ((some (x8.take ((wrap64 ((x8.length : Int) - 2)) : Int).toNat : List (S29))).bind fun y1289 => ((impl_HashPair.f k ((rd_T29 x8 (wrap64 ((x8.length : Int) - 2))).f0) ((rd_T29 x8 (wrap64 ((x8.length : Int) - 2))).f1) ((rd_T29 x8 (wrap64 ((x8.length : Int) - 2))).f2) ((rd_T29 x8 (wrap64 ((x8.length : Int) - 2))).f3) ((rd_T29 x8 (wrap64 ((wrap64 ((x8.length : Int) - 2)) + 1))).f0) ((rd_T29 x8 (wrap64 ((wrap64 ((x8.length : Int) - 2)) + 1))).f1) ((rd_T29 x8 (wrap64 ((wrap64 ((x8.length : Int) - 2)) + 1))).f2) ((rd_T29 x8 (wrap64 ((wrap64 ((x8.length : Int) - 2)) + 1))).f3)).bind fun bt1292 => (if y1289.length < 4398046511104 then (impl_PeaksAdd.l0 k (wrap64 (Int.tdiv x0 2)) (y1289 ++ [(⟨bt1292.1, bt1292.2.1, bt1292.2.2.1, bt1292.2.2.2⟩ : S29)])) else (none)))) else (none)) else (none)) else (none)) else (none)) else (none)) else ((impl_Digest.f x8).bind fun t1299 => (some (t1299, true)))
end
def impl_PeaksAdd.f (k : Nat) (a0 : Int) (l1 : List (S29)) (a2 : ByteArray) : Option ((List (S29)) × Bool) := (impl_in.f a0 0 255).bind fun t1272 => (if t1272 = true then ((impl_PeaksCount.f a0).bind fun t1273 => (if (l1.length : Int) = t1273 then (impl_PeaksAdd.j0 k a0 l1 a2 (decide ((a2.size : Int) > 40))) else (impl_PeaksAdd.j0 k a0 l1 a2 true))) else (impl_PeaksAdd.j0 k a0 l1 a2 true))
theorem impl_PeaksAdd.mono_l : ∀ k, (∀ y0 y1 y2 y3, LeO (impl_PeaksAdd.j0 k y0 y1 y2 y3) (impl_PeaksAdd.j0 (k + 1) y0 y1 y2 y3)) ∧ (∀ y0 y1, LeO (impl_PeaksAdd.l0 k y0 y1) (impl_PeaksAdd.l0 (k + 1) y0 y1))
  | 0 => ⟨fun _ _ _ _ r h => by simp [impl_PeaksAdd.j0] at h, fun _ _ r h => by simp [impl_PeaksAdd.l0] at h⟩
  | k + 1 => by
    obtain ⟨ih0, ih1⟩ := impl_PeaksAdd.mono_l k
    refine ⟨?_, ?_⟩
    · intro y0 y1 y2 y3
      unfold impl_PeaksAdd.j0
      repeat' first | (with_reducible first | exact ih0 _ _ _ _ | exact ih1 _ _ | exact impl_HashLeaf.mono _ _ | exact impl_HashPair.mono _ _ _ _ _ _ _ _ _ | exact LeO.refl _ | exact LeO.none _ | refine LeO.ite ?_ ?_ | refine LeO.bind ?_ (fun _ => ?_)) | exact ih0 _ _ _ _ | exact ih1 _ _ | exact LeO.none _ | refine LeO.ite ?_ ?_ | refine LeO.bind ?_ (fun _ => ?_)
    · intro y0 y1
      unfold impl_PeaksAdd.l0
      repeat' first | (with_reducible first | exact ih0 _ _ _ _ | exact ih1 _ _ | exact impl_HashLeaf.mono _ _ | exact impl_HashPair.mono _ _ _ _ _ _ _ _ _ | exact LeO.refl _ | exact LeO.none _ | refine LeO.ite ?_ ?_ | refine LeO.bind ?_ (fun _ => ?_)) | exact ih0 _ _ _ _ | exact ih1 _ _ | exact LeO.none _ | refine LeO.ite ?_ ?_ | refine LeO.bind ?_ (fun _ => ?_)
theorem impl_PeaksAdd.mono : ∀ a0 a1 a2 k, LeO (impl_PeaksAdd.f k a0 a1 a2) (impl_PeaksAdd.f (k + 1) a0 a1 a2) := by
  intro a0 a1 a2 k
  obtain ⟨ih0, ih1⟩ := impl_PeaksAdd.mono_l k
  unfold impl_PeaksAdd.f
  repeat' first | (with_reducible first | exact ih0 _ _ _ _ | exact ih1 _ _ | exact impl_HashLeaf.mono _ _ | exact impl_HashPair.mono _ _ _ _ _ _ _ _ _ | exact LeO.refl _ | exact LeO.none _ | refine LeO.ite ?_ ?_ | refine LeO.bind ?_ (fun _ => ?_)) | exact ih0 _ _ _ _ | exact ih1 _ _ | exact LeO.none _ | refine LeO.ite ?_ ?_ | refine LeO.bind ?_ (fun _ => ?_)
def impl_PeaksAdd.T7 : Bool × List (List Nat × List Nat) := (true, [([], []), ([], []), ([0, 1], [0, 1]), ([], []), ([], []), ([3, 4], [3, 4]), ([5], [5]), ([], []), ([], []), ([8], [8]), ([7, 9], [7, 9]), ([10], [10]), ([6, 11], [6, 11]), ([12], [12]), ([2, 13, 12], [2, 13]), ([14, 14, 0, 1, 2, 3, 4, 5, 6, 7, 8, 9, 10, 11, 12, 13, 14], [0, 3, 7, 14])])
def impl_PeaksAdd.B7 : List Nat := [0, 0, 3, 0, 0, 24, 56, 0, 0, 256, 896, 1920, 4088, 8184, 16383, 32767]
theorem impl_PeaksAdd.tab7 : rtab .any (opsOf Try.f58 7) = impl_PeaksAdd.T7 := by kernel_rfl
theorem impl_PeaksAdd.bits7 : waitsOk impl_PeaksAdd.T7.2 impl_PeaksAdd.B7 = true := by kernel_rfl
set_option maxHeartbeats 8000000 in
set_option maxRecDepth 100000 in
theorem impl_PeaksAdd.calls (k : Nat) (a0 : Int) (A1 : Option Addr) (c1 : Nat) (l1 : List (S29)) (a2 : ByteArray) (r1 : List (S29)) (r2 : Bool) (w : World) (hr1 : Kd.C k29 w A1 l1.length l1) (hc1 : l1.length ≤ c1) (h : impl_PeaksAdd.f k a0 l1 a2 = some (r1, r2)) :
    Calls Try.prog 58 #[.int .i64 a0, .slice A1 l1.length c1, .string a2] w fun e w' => ∃ v0_ : Value, e = .returned (.tuple #[v0_, .bool r2]) ∧ Kd.R k29 29 w' w.heap.size (fun _ => True) v0_ r1 ∧ Below w.heap.size w w' := by
  have hu29 := Try.underlying29
  have HR1 := Aside0.mk hr1
  have HC1 := Aside0.mk hc1
  clear hr1 hc1
  have HB := Aside0.mk (Below.refl w.heap.size w)
  have H : ((impl_in.f a0 0 255).bind fun t1272 => (if t1272 = true then ((impl_PeaksCount.f a0).bind fun t1273 => (if (l1.length : Int) = t1273 then (impl_PeaksAdd.j0 k a0 l1 a2 (decide ((a2.size : Int) > 40))) else (impl_PeaksAdd.j0 k a0 l1 a2 true))) else (impl_PeaksAdd.j0 k a0 l1 a2 true))) = some (r1, r2) := h
  clear h
  have HC4 := Aside0.mk H
  clear H
  go_enter Try.func58, Try.ntmps58
  go_upto_region 1 with (fail)
  go_cut [24] (fun v24 wc => ∃ (kq : Nat) (x24_3 : Bool), v24 = .bool x24_3 ∧ Aside0 (impl_PeaksAdd.j0 kq a0 l1 a2 x24_3 = some (r1, r2)) ∧ Aside0 (kq ≤ k) ∧ Aside0 (Below w.heap.size w wc))
  case first =>
    have H := HC4.out
    clear HC4
    obtain ⟨t1272, A5, H⟩ := bnd_ H
    by_cases c6 : t1272 = true
    · subst c6
      rw [if_pos rfl] at H
      obtain ⟨t1273, A7, H⟩ := bnd_ H
      by_cases c8 : (l1.length : Int) = t1273
      · rw [if_pos c8] at H
        have c8b0 : ((l1.length : Int) == t1273) = true := beq_iff_eq.mpr c8
        have c8b1 : ((l1.length : Int) != t1273) = false := bne_eq_false_iff_eq.mpr c8
        clear c8
        (first | rw [c8b0] | (simp only [i64_w, i32_w]; rw [c8b0]) | skip)
        have H' := Aside0.mk H
        clear H
        go_wp2_with (first | ((with_reducible refine gate_callee (f := 108) rfl ?_); refine goL_ (some 11) Try.func108 #[.int .i64 a0, .int .i64 0, .int .i64 255] ?_; (with_reducible refine (impl_in.calls a0 0 255 true _ A5.out).mono ?_); rintro e w' ⟨rfl, ⟨nd, rfl⟩⟩; refine ⟨_, rfl, ?_⟩) | (go_at_call 78; (with_reducible refine (impl_PeaksCount.calls a0 t1273 _ A7.out).mono ?_); rintro e w' ⟨rfl, ⟨nd, rfl⟩⟩))
        go_meet
        case rel => exact ⟨_, (decide ((a2.size : Int) > 40)), (by first | rfl | (simp; done) | (simp [*]; done)), H', ⟨by first | omega | exact Nat.le_refl _⟩, ⟨bel_⟩⟩
      · rw [if_neg c8] at H
        have c8b0 : ((l1.length : Int) == t1273) = false := beq_eq_false_iff_ne.mpr c8
        have c8b1 : ((l1.length : Int) != t1273) = true := bne_iff_ne.mpr c8
        (first | rw [c8b0] | (simp only [i64_w, i32_w]; rw [c8b0]) | skip)
        have H' := Aside0.mk H
        clear H
        go_wp2_with (first | ((with_reducible refine gate_callee (f := 108) rfl ?_); refine goL_ (some 11) Try.func108 #[.int .i64 a0, .int .i64 0, .int .i64 255] ?_; (with_reducible refine (impl_in.calls a0 0 255 true _ A5.out).mono ?_); rintro e w' ⟨rfl, ⟨nd, rfl⟩⟩; refine ⟨_, rfl, ?_⟩) | (go_at_call 78; (with_reducible refine (impl_PeaksCount.calls a0 t1273 _ A7.out).mono ?_); rintro e w' ⟨rfl, ⟨nd, rfl⟩⟩))
        go_meet
        case rel => exact ⟨_, (true), (by first | rfl | (simp; done) | (simp [*]; done)), H', ⟨by first | omega | exact Nat.le_refl _⟩, ⟨bel_⟩⟩
    · replace c6 := Bool.eq_false_iff.mpr c6
      subst c6
      rw [if_neg (show ¬ (false = true) by decide)] at H
      have H' := Aside0.mk H
      clear H
      go_wp2_with (first | ((with_reducible refine gate_callee (f := 108) rfl ?_); refine goL_ (some 11) Try.func108 #[.int .i64 a0, .int .i64 0, .int .i64 255] ?_; (with_reducible refine (impl_in.calls a0 0 255 false _ A5.out).mono ?_); rintro e w' ⟨rfl, ⟨nd, rfl⟩⟩; refine ⟨_, rfl, ?_⟩))
      go_meet
      case rel => exact ⟨_, (true), (by first | rfl | (simp; done) | (simp [*]; done)), H', ⟨by first | omega | exact Nat.le_refl _⟩, ⟨bel_⟩⟩
  case rest =>
    clear HC4
    (try clear c1); (try clear c6); (try clear c8); (try clear c8b0); (try clear c8b1)
    obtain ⟨kq, x24_3, rfl, HA, HJ3, HB⟩ := hcut
    cases kq with
    | zero => exact absurd HA.out (by simp [impl_PeaksAdd.j0])
    | succ kj3 =>
      have H := HA.out
      clear HA
      simp only [impl_PeaksAdd.j0] at H
      by_cases c9 : x24_3 = true
      · subst c9
        rw [if_pos rfl] at H
        simp only [Option.some.injEq, Prod.mk.injEq] at H
        obtain ⟨rfl, rfl⟩ := H
        go_wp2
        go_ret2
        exact ⟨_, rfl_, by first | exact Kd.R_nil _ _ _ _ _ | exact Kd.N_nil _ _ _ _ _ | exact Kd.V_nil _ _ _ _ _ | exact Kd.Q_nil _ _ _ _ _ | exact Kd.S_nil _ _ _ _ _, bel_⟩
      · replace c9 := Bool.eq_false_iff.mpr c9
        subst c9
        rw [if_neg (show ¬ (false = true) by decide)] at H
        obtain ⟨y1274, hy1274⟩ : ∃ y_ : List (S29), y_ = (([] : List (S29))) := ⟨_, rfl⟩
        replace H : (if y1274.length + l1.length < 4398046511104 then ((some (y1274 ++ l1 : List (S29))).bind fun y1277 => ((impl_HashLeaf.f kj3 a2).bind fun bt1280 => (if y1277.length < 4398046511104 then (impl_PeaksAdd.l0 kj3 a0 (y1277 ++ [(⟨bt1280.1, bt1280.2.1, bt1280.2.2.1, bt1280.2.2.2⟩ : S29)])) else (none)))) else (none)) = some (r1, r2) := by first | (rw [hy1274]; with_reducible exact H) | (have H2_ := (Option.bind_some _ _).symm.trans H; rw [hy1274]; with_reducible exact H2_) | (have H2_ := (Option.bind_some _ _).symm.trans H; with_reducible exact H2_) | with_reducible exact H | (rw [hy1274]; exact H) | exact H
        have Ny1274 := Aside0.mk hy1274
        clear hy1274
        by_cases c10 : y1274.length + l1.length < 4398046511104
        · rw [if_pos c10] at H
          have LMc10 := Aside0.mk c10
          clear c10
          obtain ⟨y1277, hy1277⟩ : ∃ y_ : List (S29), y_ = (y1274 ++ l1) := ⟨_, rfl⟩
          replace H : ((impl_HashLeaf.f kj3 a2).bind fun bt1280 => (if y1277.length < 4398046511104 then (impl_PeaksAdd.l0 kj3 a0 (y1277 ++ [(⟨bt1280.1, bt1280.2.1, bt1280.2.2.1, bt1280.2.2.2⟩ : S29)])) else (none))) = some (r1, r2) := by first | (rw [hy1277]; with_reducible exact H) | (have H2_ := (Option.bind_some _ _).symm.trans H; rw [hy1277]; with_reducible exact H2_) | (have H2_ := (Option.bind_some _ _).symm.trans H; with_reducible exact H2_) | with_reducible exact H | (rw [hy1277]; exact H) | exact H
          have Ny1277 := Aside0.mk hy1277
          clear hy1277
          obtain ⟨⟨t1280, t1281, t1282, t1283⟩, A11, H⟩ := bnd_ H
          dsimp only at H
          by_cases c12 : y1277.length < 4398046511104
          · rw [if_pos c12] at H
            have LMc12 := Aside0.mk c12
            clear c12
            obtain ⟨y1284, hy1284⟩ : ∃ y_ : List (S29), y_ = (y1277 ++ [(⟨t1280, t1281, t1282, t1283⟩ : S29)]) := ⟨_, rfl⟩
            replace H : (impl_PeaksAdd.l0 kj3 a0 y1284) = some (r1, r2) := by first | (rw [hy1284]; with_reducible exact H) | (have H2_ := (Option.bind_some _ _).symm.trans H; rw [hy1284]; with_reducible exact H2_) | (have H2_ := (Option.bind_some _ _).symm.trans H; with_reducible exact H2_) | with_reducible exact H | (rw [hy1284]; exact H) | exact H
            have Ny1284 := Aside0.mk hy1284
            clear hy1284
            have H' := Aside0.mk H
            clear H
            go_wp2_with (first | ((with_reducible refine gate_dst (N := 25) rfl ?_); (try (refine gate_guard (by rfl) ?_; dsimp only)); refine Kd.R_lit k29 _ 29 ?hg (N := 25) ?hd (xs := ([] : List (S29))) (inner := []) (ok := fun _ => True) (okp := fun _ => True) ?hr ?hp (fun _ hk => hk) trivial (Below.refl _ _) (Nat.le_refl _) (by simp) ?_; (case hd => rfl); (case hg => rfl); (case hr => first | (go_simp; done) | (go_simp; rfl)); (case hp => exact (Reps.none _ _)); intro v1275 w13 ho14 hb hg_ hnew_; clear hg_ hnew_; (first | rw [← Ny1274.out] at ho14 | (simp only [Int.reduceToNat] at ho14; rw [← Ny1274.out] at ho14)); have HO1276 := Aside0.mk (Kd.R_lower ho14 (below_size bel_)); replace HB := stepB_ hb; clear hb ho14) | ((with_reducible refine gate_builtin (b := .append) (xs := #[.tmp 25, .tmp 26]) rfl ?_); (try (refine gate_guard (by rfl) ?_; dsimp only)); at_builtin; refine Kd.R_append_rows k29 (w0 := w) w.heap.size rfl (.tmp 25) (.tmp 26) 49 29 (.agg #[(.int .u64 0), (.int .u64 0), (.int .u64 0), (.int .u64 0)]) 32 rfl Try.underlying49 info29 rfl (by decide) (by omega) v1275 y1274 l1 _ _ _ (fun _ => True) (fun _ => False) rfl rfl ?aO ?aR (fun _ _ h => h) (fun _ h => h.elim) ?aF ?aB ?aS ?aL ?_; (case aR => repeat (first | exact (Kd.C_below HR1.out HB.out) | (with_reducible refine Kd.C_alloc ?_ _) | (with_reducible refine Kd.C_drewN ?_ _) | (with_reducible refine Kd.C_drew ?_))); (case aB => exact bel_); (case aF => exact (fun _ _ => trivial)); (case aO => exact (kdU_ HO1276.out)); (case aS => exact (below_size bel_)); (case aL => have := LMc10.out; omega); intro v1278 w15 ho hb hg hat; rw [← Ny1277.out] at ho; replace HB := Aside0.mk (hb); have HO1279 := Aside0.mk (ho); clear HO1276; clear ho hb hg hat) | ((with_reducible refine gate_callee (f := 104) rfl ?_); refine goL_ (some 29) Try.func104 #[.string a2] ?_; (with_reducible refine (impl_HashLeaf.calls kj3 a2 t1280 t1281 t1282 t1283 _ A11.out).mono ?_); rintro e w16 ⟨rfl, hb⟩; refine ⟨_, rfl, ?_⟩; replace HO1279 := Aside0.mk (Kd.R_below (kdU_ HO1279.out) hb); replace HB := stepB_ hb; (try clear hb); (try clear hk)) | ((with_reducible refine gate_builtin (b := .append) (xs := #[.tmp 27, .tmp 30]) rfl ?_); (try (refine gate_guard (by rfl) ?_; dsimp only)); at_builtin; refine Kd.R_append k29 (w0 := w) w.heap.size rfl (.tmp 27) (.tmp 30) 49 29 (.agg #[(.int .u64 0), (.int .u64 0), (.int .u64 0), (.int .u64 0)]) 32 rfl Try.underlying49 info29 rfl (by decide) (by omega) v1278 y1277 (⟨t1280, t1281, t1282, t1283⟩ : S29) [.int .u64 t1280, .int .u64 t1281, .int .u64 t1282, .int .u64 t1283] (fun _ => True) (fun _ => False) rfl rfl ?aP (fun _ hk => hk.elim) ?aF ?aO ?aB ?aS ?aL ?_; (case aP => exact k29_mkM _ _ _ (⟨t1280, t1281, t1282, t1283⟩ : S29)); (case aB => exact bel_); (case aF => exact (fun _ _ => trivial)); (case aO => exact (kdU_ HO1279.out)); (case aS => exact (below_size bel_)); (case aL => have := LMc12.out; omega); intro v1285 w17 ho hb hg hat; rw [← Ny1284.out] at ho; replace HB := Aside0.mk (hb); have HO1286 := Aside0.mk (ho); clear HO1279; clear ho hb hg hat))
            go_loopg [0, 8] kj3 (fun kq v0 v8 w' => ∃ (x0_2 : Int) (x8_2 : List (S29)), v0 = .int .i64 x0_2 ∧ Aside0 (impl_PeaksAdd.l0 kq x0_2 x8_2 = some (r1, r2)) ∧ Aside0 (kq ≤ kj3) ∧ Aside0 (Kd.R k29 29 w' w.heap.size (fun _ => True) v8 x8_2) ∧ Aside0 (Below w.heap.size w w'))
            case atStart => exact ⟨(a0), (y1284), (by first | rfl | (simp; done) | (simp [*]; done)), H', ⟨Nat.le_refl _⟩, ⟨kdU_ HO1286.out⟩, ⟨bel_⟩⟩
            case round =>
              clear H'
              (try clear c1); (try clear c6); (try clear c8); (try clear c8b0); (try clear c8b1); (try clear c9); (try clear c10); (try clear c12)
              obtain ⟨x0_2, x8_2, rfl, HA, HK2, HO_8, HB⟩ := hrel
              cases gk with
              | zero => exact absurd HA.out (by simp [impl_PeaksAdd.l0])
              | succ k2 =>
                have H := HA.out
                clear HA
                simp only [impl_PeaksAdd.l0] at H
                by_cases c18 : (Int.tmod x0_2 2) = 1
                · rw [if_pos c18] at H
                  have c18b0 : ((Int.tmod x0_2 2) == 1) = true := beq_iff_eq.mpr c18
                  have c18b1 : ((Int.tmod x0_2 2) != 1) = false := bne_eq_false_iff_eq.mpr c18
                  clear c18
                  obtain ⟨ji19, hji19⟩ : ∃ j_ : Int, (wrap64 ((x8_2.length : Int) - 2)) = j_ := ⟨_, rfl⟩
                  replace H : (if 0 ≤ (ji19) then (if (ji19) < (x8_2.length : Int) then (if 0 ≤ (wrap64 ((ji19) + 1)) then (if (wrap64 ((ji19) + 1)) < (x8_2.length : Int) then (if (ji19) ≤ (x8_2.length : Int) then ((some (x8_2.take ((ji19) : Int).toNat : List (S29))).bind fun y1289 => ((impl_HashPair.f k2 ((rd_T29 x8_2 (ji19)).f0) ((rd_T29 x8_2 (ji19)).f1) ((rd_T29 x8_2 (ji19)).f2) ((rd_T29 x8_2 (ji19)).f3) ((rd_T29 x8_2 (wrap64 ((ji19) + 1))).f0) ((rd_T29 x8_2 (wrap64 ((ji19) + 1))).f1) ((rd_T29 x8_2 (wrap64 ((ji19) + 1))).f2) ((rd_T29 x8_2 (wrap64 ((ji19) + 1))).f3)).bind fun bt1292 => (if y1289.length < 4398046511104 then (impl_PeaksAdd.l0 k2 (wrap64 (Int.tdiv x0_2 2)) (y1289 ++ [(⟨bt1292.1, bt1292.2.1, bt1292.2.2.1, bt1292.2.2.2⟩ : S29)])) else (none)))) else (none)) else (none)) else (none)) else (none)) else (none)) = some (r1, r2) := by first | (rw [hji19] at H; exact H) | (simp only [hji19] at H ⊢; exact H)
                  have hji19w : (IntKind.i64.wrap ((x8_2.length : Int) - 2)) = ji19 := (i64_w _).trans hji19
                  by_cases c20 : 0 ≤ (ji19)
                  · rw [if_pos c20] at H
                    have c20b0 : decide (0 ≤ (ji19)) = true := decide_eq_true c20
                    clear c20
                    by_cases c21 : (ji19) < (x8_2.length : Int)
                    · rw [if_pos c21] at H
                      have c21b0 : decide ((ji19) < (x8_2.length : Int)) = true := decide_eq_true c21
                      clear c21
                      obtain ⟨ji22, hji22⟩ : ∃ j_ : Int, (wrap64 ((ji19) + 1)) = j_ := ⟨_, rfl⟩
                      replace H : (if 0 ≤ (ji22) then (if (ji22) < (x8_2.length : Int) then (if (ji19) ≤ (x8_2.length : Int) then ((some (x8_2.take ((ji19) : Int).toNat : List (S29))).bind fun y1289 => ((impl_HashPair.f k2 ((rd_T29 x8_2 (ji19)).f0) ((rd_T29 x8_2 (ji19)).f1) ((rd_T29 x8_2 (ji19)).f2) ((rd_T29 x8_2 (ji19)).f3) ((rd_T29 x8_2 (ji22)).f0) ((rd_T29 x8_2 (ji22)).f1) ((rd_T29 x8_2 (ji22)).f2) ((rd_T29 x8_2 (ji22)).f3)).bind fun bt1292 => (if y1289.length < 4398046511104 then (impl_PeaksAdd.l0 k2 (wrap64 (Int.tdiv x0_2 2)) (y1289 ++ [(⟨bt1292.1, bt1292.2.1, bt1292.2.2.1, bt1292.2.2.2⟩ : S29)])) else (none)))) else (none)) else (none)) else (none)) = some (r1, r2) := by first | (rw [hji22] at H; exact H) | (simp only [hji22] at H ⊢; exact H)
                      have hji22w : (IntKind.i64.wrap ((ji19) + 1)) = ji22 := (i64_w _).trans hji22
                      by_cases c23 : 0 ≤ (ji22)
                      · rw [if_pos c23] at H
                        have c23b0 : decide (0 ≤ (ji22)) = true := decide_eq_true c23
                        clear c23
                        by_cases c24 : (ji22) < (x8_2.length : Int)
                        · rw [if_pos c24] at H
                          have c24b0 : decide ((ji22) < (x8_2.length : Int)) = true := decide_eq_true c24
                          clear c24
                          by_cases c25 : (ji19) ≤ (x8_2.length : Int)
                          · rw [if_pos c25] at H
                            have c25b0 := eq_true c25
                            have c25b1 : decide ((ji19) ≤ (x8_2.length : Int)) = true := decide_eq_true c25
                            clear c25
                            obtain ⟨y1289, hy1289⟩ : ∃ y_ : List (S29), y_ = (x8_2.take ((ji19) : Int).toNat) := ⟨_, rfl⟩
                            replace H : ((impl_HashPair.f k2 ((rd_T29 x8_2 (ji19)).f0) ((rd_T29 x8_2 (ji19)).f1) ((rd_T29 x8_2 (ji19)).f2) ((rd_T29 x8_2 (ji19)).f3) ((rd_T29 x8_2 (ji22)).f0) ((rd_T29 x8_2 (ji22)).f1) ((rd_T29 x8_2 (ji22)).f2) ((rd_T29 x8_2 (ji22)).f3)).bind fun bt1292 => (if y1289.length < 4398046511104 then (impl_PeaksAdd.l0 k2 (wrap64 (Int.tdiv x0_2 2)) (y1289 ++ [(⟨bt1292.1, bt1292.2.1, bt1292.2.2.1, bt1292.2.2.2⟩ : S29)])) else (none))) = some (r1, r2) := by first | (rw [hy1289]; with_reducible exact H) | (have H2_ := (Option.bind_some _ _).symm.trans H; rw [hy1289]; with_reducible exact H2_) | (have H2_ := (Option.bind_some _ _).symm.trans H; with_reducible exact H2_) | with_reducible exact H | (rw [hy1289]; exact H) | exact H
                            have Ny1289 := Aside0.mk hy1289
                            clear hy1289
                            obtain ⟨⟨t1292, t1293, t1294, t1295⟩, A26, H⟩ := bnd_ H
                            dsimp only at H
                            by_cases c27 : y1289.length < 4398046511104
                            · rw [if_pos c27] at H
                              have LMc27 := Aside0.mk c27
                              clear c27
                              obtain ⟨y1296, hy1296⟩ : ∃ y_ : List (S29), y_ = (y1289 ++ [(⟨t1292, t1293, t1294, t1295⟩ : S29)]) := ⟨_, rfl⟩
                              replace H : (impl_PeaksAdd.l0 k2 (wrap64 (Int.tdiv x0_2 2)) y1296) = some (r1, r2) := by first | (rw [hy1296]; with_reducible exact H) | (have H2_ := (Option.bind_some _ _).symm.trans H; rw [hy1296]; with_reducible exact H2_) | (have H2_ := (Option.bind_some _ _).symm.trans H; with_reducible exact H2_) | with_reducible exact H | (rw [hy1296]; exact H) | exact H
                              have Ny1296 := Aside0.mk hy1296
                              clear hy1296
                              have H' := Aside0.mk H
                              clear H
                              obtain ⟨Ao28, co28, eo28⟩ := Kd.R_slice HO_8.out
                              subst eo28
                              try go_wp2
                              replace HO_8 := Aside0.mk (Kd.R_drew HO_8.out)
                              replace HB := Aside0.mk (below_drew1 HB.out)
                              have p1287 : 0 ≤ ((ji19) : Int) := ofd_
                              have q1287 : (ji19) < (x8_2.length : Int) := ofd_
                              obtain ⟨ad1287, e1287, hx1287_0, hx1287_1, hx1287_2, hx1287_3⟩ := at_T29 (Kd.R_reads' HO_8.out).2.2 (ji19) p1287 q1287
                              cases e1287
                              replace p1287 := eq_true p1287
                              replace q1287 := eq_true q1287
                              have p1288 : 0 ≤ ((ji22) : Int) := ofd_
                              have q1288 : (ji22) < (x8_2.length : Int) := ofd_
                              obtain ⟨ad1288, e1288, hx1288_0, hx1288_1, hx1288_2, hx1288_3⟩ := at_T29 (Kd.R_reads' HO_8.out).2.2 (ji22) p1288 q1288
                              obtain rfl : ad1287 = ad1288 := (by injection e1288)
                              replace p1288 := eq_true p1288
                              replace q1288 := eq_true q1288
                              have q30 : ((ji19) : Int) ≤ ((x8_2.length : Int) : Int) := ofd_
                              obtain ⟨i030, hi030, _, hsz30, _⟩ := info_parts info29
                              have hcut30 := cut_to (P := Try.prog) 49 29 .i64 Try.underlying49 hi030 (some ad1287) x8_2.length co28 (ji19) (ofd_) q30 (Kd.R_reads' HO_8.out).2.1
                              have hr30 := Kd.R_take (m := ((ji19) : Int).toNat) HO_8.out (by omega)
                              have hy30 : y1289.length = ((ji19) : Int).toNat := (by rw [Ny1289.out, List.length_take]; omega)
                              rw [← Ny1289.out] at hr30
                              rw [← hy30] at hr30 hcut30
                              clear hy30 hi030 hsz30 HO_8
                              have HO1291 := Aside0.mk hr30
                              clear hr30
                              replace q30 := eq_true q30
                              refine start_ (n := 16) (S := fun w' => w'.cell? (ad1287.add (((ji19)).toNat * 4)) = some (.int .u64 ((rd_T29 x8_2 (ji19)).f0)) ∧ w'.cell? ⟨(ad1287.add (((ji19)).toNat * 4)).block, (ad1287.add (((ji19)).toNat * 4)).off + 1, none⟩ = some (.int .u64 ((rd_T29 x8_2 (ji19)).f1)) ∧ w'.cell? ⟨(ad1287.add (((ji19)).toNat * 4)).block, (ad1287.add (((ji19)).toNat * 4)).off + 2, none⟩ = some (.int .u64 ((rd_T29 x8_2 (ji19)).f2)) ∧ w'.cell? ⟨(ad1287.add (((ji19)).toNat * 4)).block, (ad1287.add (((ji19)).toNat * 4)).off + 3, none⟩ = some (.int .u64 ((rd_T29 x8_2 (ji19)).f3)) ∧ w'.cell? (ad1287.add (((ji22)).toNat * 4)) = some (.int .u64 ((rd_T29 x8_2 (ji22)).f0)) ∧ w'.cell? ⟨(ad1287.add (((ji22)).toNat * 4)).block, (ad1287.add (((ji22)).toNat * 4)).off + 1, none⟩ = some (.int .u64 ((rd_T29 x8_2 (ji22)).f1)) ∧ w'.cell? ⟨(ad1287.add (((ji22)).toNat * 4)).block, (ad1287.add (((ji22)).toNat * 4)).off + 2, none⟩ = some (.int .u64 ((rd_T29 x8_2 (ji22)).f2)) ∧ w'.cell? ⟨(ad1287.add (((ji22)).toNat * 4)).block, (ad1287.add (((ji22)).toNat * 4)).off + 3, none⟩ = some (.int .u64 ((rd_T29 x8_2 (ji22)).f3))) (ds := [13, 14]) #[false, false, false, false, false, false, false, false, false, false, false, false, false, false, false, false] (by kernel_rfl) rfl rfl ⟨hx1287_0, hx1287_1, hx1287_2, hx1287_3, hx1288_0, hx1288_1, hx1288_2, hx1288_3⟩ (fun hHeld => ?_); refine with_tabW impl_PeaksAdd.tab7 impl_PeaksAdd.bits7 (fun HT_ HW_ => ?_)
                              generalize wr.drew = w29 at HB HO1291 hx1287_0 hx1287_1 hx1287_2 hx1287_3 hx1288_0 hx1288_1 hx1288_2 hx1288_3 hHeld ⊢
                              refine pureP_ 0 (some 40) #[true, false, false, false, false, false, false, false, false, false, false, false, false, false, false, false] HT_ ?_
                              refine pureP_ 1 (some 41) #[true, true, false, false, false, false, false, false, false, false, false, false, false, false, false, false] HT_ ?_
                              refine pureP_ 2 (some 42) #[true, true, true, false, false, false, false, false, false, false, false, false, false, false, false, false] HT_ ?_
                              refine pureP_ 3 (some 43) #[true, true, true, true, false, false, false, false, false, false, false, false, false, false, false, false] HT_ ?_
                              refine pureP_ 4 (some 44) #[true, true, true, true, true, false, false, false, false, false, false, false, false, false, false, false] HT_ ?_
                              refine pureP_ 5 (some 45) #[true, true, true, true, true, true, false, false, false, false, false, false, false, false, false, false] HT_ ?_
                              refine pureP_ 7 (some 47) #[true, true, true, true, true, true, false, true, false, false, false, false, false, false, false, false] HT_ ?_
                              refine pureP_ 8 (some 48) #[true, true, true, true, true, true, false, true, true, false, false, false, false, false, false, false] HT_ ?_
                              refine pureP_ 9 (some 49) #[true, true, true, true, true, true, false, true, true, true, false, false, false, false, false, false] HT_ ?_
                              refine pureP_ 10 (some 50) #[true, true, true, true, true, true, false, true, true, true, true, false, false, false, false, false] HT_ ?_
                              refine takeP_ 6 (some 46) #[true, true, true, true, true, true, true, true, true, true, true, false, false, false, false, false] HT_ HW_ hHeld ?_
                              refine takeP_ 11 (some 51) #[true, true, true, true, true, true, true, true, true, true, true, true, false, false, false, false] HT_ HW_ hHeld ?_
                              refine oneP_ 12 (some 52) #[true, true, true, true, true, true, true, true, true, true, true, true, true, false, false, false] HT_ (fun K hK => ?_)
                              refine goes_ Try.func56 (by kernel_rfl) rfl #[.agg #[.int .u64 ((rd_T29 x8_2 (ji19)).f0), .int .u64 ((rd_T29 x8_2 (ji19)).f1), .int .u64 ((rd_T29 x8_2 (ji19)).f2), .int .u64 ((rd_T29 x8_2 (ji19)).f3)], .agg #[.int .u64 ((rd_T29 x8_2 (ji22)).f0), .int .u64 ((rd_T29 x8_2 (ji22)).f1), .int .u64 ((rd_T29 x8_2 (ji22)).f2), .int .u64 ((rd_T29 x8_2 (ji22)).f3)]] (by rfl) rfl rfl (by (try simp only [List.map_toArray, List.map_cons, List.map_nil]); first | done | (simp only [hji19, hji22]; rfl) | rfl | (simp only [List.length_drop, List.length_take]; rfl)) ?_
                              with_reducible refine (impl_HashPair.calls k2 ((rd_T29 x8_2 (ji19)).f0) ((rd_T29 x8_2 (ji19)).f1) ((rd_T29 x8_2 (ji19)).f2) ((rd_T29 x8_2 (ji19)).f3) ((rd_T29 x8_2 (ji22)).f0) ((rd_T29 x8_2 (ji22)).f1) ((rd_T29 x8_2 (ji22)).f2) ((rd_T29 x8_2 (ji22)).f3) t1292 t1293 t1294 t1295 _ A26.out).mono ?_
                              rintro e w31 ⟨rfl, hb⟩
                              have HS0_ := (hb.cell (World.block_lt_of_cell? _ _ (hHeld.1))).trans (hHeld.1)
                              have HS1_ := (hb.cell (World.block_lt_of_cell? _ _ (hHeld.2.1))).trans (hHeld.2.1)
                              have HS2_ := (hb.cell (World.block_lt_of_cell? _ _ (hHeld.2.2.1))).trans (hHeld.2.2.1)
                              have HS3_ := (hb.cell (World.block_lt_of_cell? _ _ (hHeld.2.2.2.1))).trans (hHeld.2.2.2.1)
                              have HS4_ := (hb.cell (World.block_lt_of_cell? _ _ (hHeld.2.2.2.2.1))).trans (hHeld.2.2.2.2.1)
                              have HS5_ := (hb.cell (World.block_lt_of_cell? _ _ (hHeld.2.2.2.2.2.1))).trans (hHeld.2.2.2.2.2.1)
                              have HS6_ := (hb.cell (World.block_lt_of_cell? _ _ (hHeld.2.2.2.2.2.2.1))).trans (hHeld.2.2.2.2.2.2.1)
                              have HS7_ := (hb.cell (World.block_lt_of_cell? _ _ (hHeld.2.2.2.2.2.2.2))).trans (hHeld.2.2.2.2.2.2.2)
                              refine ⟨_, rfl, ?_⟩
                              replace HO1291 := Aside0.mk (Kd.R_below (kdU_ HO1291.out) hb)
                              replace HB := stepB_ hb
                              (try clear hb); (try clear hk)
                              refine hK.out _ _ ⟨HS0_, HS1_, HS2_, HS3_, HS4_, HS5_, HS6_, HS7_⟩ (fun hHeld => ?_)
                              clear hK K
                              refine norm_ (a' := ?_) ?_ ?_
                              rotate_left
                              · show Act.put _ (some 52) _ = _
                                simp only [Act.put, List.setIfInBounds_toArray, List.set_cons_zero, List.set_cons_succ, i64_w, i32_w]
                                rfl
                              refine last_ (i := 13) (N := some 53) #[true, true, true, true, true, true, true, true, true, true, true, true, true, true, false, false] rfl rfl (one_of HT_.out (by kernel_rfl)) (by decide) (fun K hK => ?_)
                              refine value_ (w1 := ?_) (v := ?_) (by rfl) rfl ?_ ?_
                              rotate_left 2
                              · go_simp
                                constructor
                                · rfl
                                · rfl
                              refine hK.out _ _ ?_
                              clear hK K
                              refine norm_ (a' := ?_) ?_ ?_
                              rotate_left
                              · show Act.put _ (some 53) _ = _
                                simp only [Act.put, List.setIfInBounds_toArray, List.set_cons_zero, List.set_cons_succ, i64_w, i32_w]
                                rfl
                              refine last_ (i := 14) (N := some 54) #[true, true, true, true, true, true, true, true, true, true, true, true, true, true, true, false] rfl rfl (one_of HT_.out (by kernel_rfl)) (by decide) (fun K hK => ?_)
                              refine Kd.R_append_step k29 (w0 := w) w.heap.size (by rfl) (.tmp 42) (.tmp 53) 49 29 (.agg #[(.int .u64 0), (.int .u64 0), (.int .u64 0), (.int .u64 0)]) 32 rfl Try.underlying49 info29 rfl (by decide) (by omega) (.slice (some ad1287) y1289.length co28) y1289 (⟨t1292, t1293, t1294, t1295⟩ : S29) [.int .u64 t1292, .int .u64 t1293, .int .u64 t1294, .int .u64 t1295] (fun _ => True) (fun _ => False) rfl rfl ?aP (fun _ hk => hk.elim) ?aF ?aO ?aB ?aS ?aL ?_
                              (case aP => exact k29_mkM _ _ _ (⟨t1292, t1293, t1294, t1295⟩ : S29))
                              (case aB => exact bel_)
                              (case aF => exact (fun _ _ => trivial))
                              (case aO => exact (kdU_ HO1291.out))
                              (case aS => exact (below_size bel_))
                              (case aL => have := LMc27.out; omega)
                              intro v1297 w32 ho hb hg hat
                              rw [← Ny1296.out] at ho
                              replace HB := Aside0.mk (hb)
                              have HO1298 := Aside0.mk (ho)
                              clear HO1291
                              clear ho hb hg hat
                              refine hK.out _ _ ?_
                              clear hK K
                              refine norm_ (a' := ?_) ?_ ?_
                              rotate_left
                              · show Act.put _ (some 54) _ = _
                                simp only [Act.put, List.setIfInBounds_toArray, List.set_cons_zero, List.set_cons_succ, i64_w, i32_w]
                                rfl
                              refine pureP_ 15 (some 8) #[true, true, true, true, true, true, true, true, true, true, true, true, true, true, true, true] HT_ ?_
                              refine done_ (done_of HT_.out (by kernel_rfl)) ?_
                              try go_wp2
                              go_roundg k2
                              case measure => have := HJ3.out; have := HK2.out; omega
                              case rel => exact ⟨(wrap64 (Int.tdiv x0_2 2)), (y1296), (by first | rfl | (simp; done) | (simp [*]; done)), H', ⟨by have := HJ3.out; have := HK2.out; omega⟩, ⟨kdU_ HO1298.out⟩, ⟨bel_⟩⟩
                            · rw [if_neg c27] at H
                              exact absurd H (by simp)
                          · rw [if_neg c25] at H
                            exact absurd H (by simp)
                        · rw [if_neg c24] at H
                          exact absurd H (by simp)
                      · rw [if_neg c23] at H
                        exact absurd H (by simp)
                    · rw [if_neg c21] at H
                      exact absurd H (by simp)
                  · rw [if_neg c20] at H
                    exact absurd H (by simp)
                · rw [if_neg c18] at H
                  have c18b0 : ((Int.tmod x0_2 2) == 1) = false := beq_eq_false_iff_ne.mpr c18
                  have c18b1 : ((Int.tmod x0_2 2) != 1) = true := bne_iff_ne.mpr c18
                  obtain ⟨t1299, A33, H⟩ := bnd_ H
                  simp only [Option.some.injEq, Prod.mk.injEq] at H
                  obtain ⟨rfl, rfl⟩ := H
                  obtain ⟨Ao34, co34, eo34⟩ := Kd.R_slice HO_8.out
                  subst eo34
                  go_wp2_with (first | ((with_reducible refine gate_callee (f := 113) rfl ?_); refine goL_ (some 56) Try.func113 #[.slice Ao34 x8_2.length co34] ?_; (with_reducible refine (impl_Digest.calls _ _ x8_2 t1299 _ ?side1 ?side2 A33.out).mono ?_); (case side1 => repeat (first | exact (Kd.R_reads' HO_8.out).2.2 | (with_reducible refine Kd.C_alloc ?_ _) | (with_reducible refine Kd.C_drewN ?_ _) | (with_reducible refine Kd.C_drew ?_))); (case side2 => exact (Kd.R_reads' HO_8.out).2.1); rintro e w35 ⟨v1300, rfl, ho0, hb⟩; refine ⟨_, rfl, ?_⟩; have HO1301 := Aside0.mk (Kd.R_lower (Kd.R_new' ho0 (Kd.R_lt (kdU_ HO_8.out))) (below_size bel_)); replace HO_8 := Aside0.mk (Kd.R_elder' (kdU_ HO_8.out) (Kd.R_base ho0) hb); replace HB := stepB_ hb; (try clear hb); (try clear hk); (try clear ho0)))
                  go_ret2
                  exact ⟨_, rfl_, by (with_reducible repeat (first | apply Kd.R_alloc | apply Kd.R_drewN | apply Kd.R_drew)); exact Kd.R_mono HO1301.out (fun _ hk => trivial), bel_⟩
          · rw [if_neg c12] at H
            exact absurd H (by simp)
        · rw [if_neg c10] at H
          exact absurd H (by simp)

end
end Go.Proofs.Ytemfciflhbhobaa.B
