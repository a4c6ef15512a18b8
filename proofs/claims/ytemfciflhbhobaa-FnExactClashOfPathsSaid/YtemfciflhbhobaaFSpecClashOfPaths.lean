/- What the Go functions loop.example/belfry/spec.ClashOfPaths do is what the Lean functions .f of their names here say; condition: .f gives an answer. (Written by the session's program pp.py over the kit's print; Lean checks it.) -/
import Derived.Test.YtemfciflhbhobaaK
import Derived.Test.YtemfciflhbhobaaM
import Derived.Test.YtemfciflhbhobaaGEq1
import Derived.Test.YtemfciflhbhobaaGFirst1
import Derived.Test.YtemfciflhbhobaaGRow1
import Derived.Test.YtemfciflhbhobaaGUp1
namespace Go.Proofs.Ytemfciflhbhobaa.B
open Go.RowKit Go.Proofs.YtemfciflhbhobaaW.PrintWords Go.Proofs.YtemfciflhbhobaaW.PrintLast Go.Proofs.YtemfciflhbhobaaW.PrintMore
attribute [local go_sem] max2_int min2_int max_two min_two max_three min_three max_four min_four   -- for this text's walks alone
set_option linter.unusedVariables false
set_option linter.unusedSimpArgs false

section
attribute [local go_sem high] eqA29
/-! ### spec_ClashOfPaths: function 76 -/
def spec_ClashOfPaths.j0 : Nat → Int → Int → ByteArray → List (S29) → ByteArray → List (S29) → Bool → Option (ByteArray × ByteArray × Bool)
  | 0, _, _, _, _, _, _, _ => none
  | k + 1, x0, x1, x2, x3, x4, x5, x44 => if x44 = true then (some ((⟨#[]⟩ : ByteArray), (⟨#[]⟩ : ByteArray), false)) else ((spec_l4Down.f k x0 x1 x2 x3).bind fun t879 => ((spec_l4Down.f k x0 x1 x4 x5).bind fun t882 => ((spec_ClashFirst.f k t879 t882).bind fun bt885 => (some (bt885.1, bt885.2.1, bt885.2.2)))))
def spec_ClashOfPaths.f (k : Nat) (a0 : Int) (a1 : Int) (a2 : ByteArray) (l3 : List (S29)) (a4 : ByteArray) (l5 : List (S29)) : Option (ByteArray × ByteArray × Bool) := (spec_PathRoot.f k a0 a1 a2 l3).bind fun bt867 => ((spec_PathRoot.f k a0 a1 a4 l5).bind fun bt873 => (if bt867.2.2.2.2 = true then (if bt873.2.2.2.2 = true then (spec_ClashOfPaths.j0 k a0 a1 a2 l3 a4 l5 (!(bt867.1 == bt873.1) || (!(bt867.2.1 == bt873.2.1) || (!(bt867.2.2.1 == bt873.2.2.1) || (!(bt867.2.2.2.1 == bt873.2.2.2.1)))))) else (spec_ClashOfPaths.j0 k a0 a1 a2 l3 a4 l5 true)) else (spec_ClashOfPaths.j0 k a0 a1 a2 l3 a4 l5 true)))
theorem spec_ClashOfPaths.mono_l : ∀ k, (∀ y0 y1 y2 y3 y4 y5 y6, LeO (spec_ClashOfPaths.j0 k y0 y1 y2 y3 y4 y5 y6) (spec_ClashOfPaths.j0 (k + 1) y0 y1 y2 y3 y4 y5 y6))
  | 0 => fun _ _ _ _ _ _ _ r h => by simp [spec_ClashOfPaths.j0] at h
  | k + 1 => by
    have ih0 := spec_ClashOfPaths.mono_l k
    · intro y0 y1 y2 y3 y4 y5 y6
      unfold spec_ClashOfPaths.j0
      repeat' first | (with_reducible first | exact ih0 _ _ _ _ _ _ _ | exact spec_ClashFirst.mono _ _ _ | exact spec_PathRoot.mono _ _ _ _ _ | exact spec_l4Down.mono _ _ _ _ _ | exact LeO.refl _ | exact LeO.none _ | refine LeO.ite ?_ ?_ | refine LeO.bind ?_ (fun _ => ?_)) | exact ih0 _ _ _ _ _ _ _ | exact LeO.none _ | refine LeO.ite ?_ ?_ | refine LeO.bind ?_ (fun _ => ?_)
theorem spec_ClashOfPaths.mono : ∀ a0 a1 a2 a3 a4 a5 k, LeO (spec_ClashOfPaths.f k a0 a1 a2 a3 a4 a5) (spec_ClashOfPaths.f (k + 1) a0 a1 a2 a3 a4 a5) := by
  intro a0 a1 a2 a3 a4 a5 k
  have ih0 := spec_ClashOfPaths.mono_l k
  unfold spec_ClashOfPaths.f
  repeat' first | (with_reducible first | exact ih0 _ _ _ _ _ _ _ | exact spec_ClashFirst.mono _ _ _ | exact spec_PathRoot.mono _ _ _ _ _ | exact spec_l4Down.mono _ _ _ _ _ | exact LeO.refl _ | exact LeO.none _ | refine LeO.ite ?_ ?_ | refine LeO.bind ?_ (fun _ => ?_)) | exact ih0 _ _ _ _ _ _ _ | exact LeO.none _ | refine LeO.ite ?_ ?_ | refine LeO.bind ?_ (fun _ => ?_)
set_option maxHeartbeats 8000000 in
set_option maxRecDepth 100000 in
theorem spec_ClashOfPaths.calls (k : Nat) (a0 : Int) (a1 : Int) (a2 : ByteArray) (A3 : Option Addr) (c3 : Nat) (l3 : List (S29)) (a4 : ByteArray) (A5 : Option Addr) (c5 : Nat) (l5 : List (S29)) (r1 : ByteArray) (r2 : ByteArray) (r3 : Bool) (w : World) (hr3 : Kd.C k29 w A3 l3.length l3) (hc3 : l3.length ≤ c3) (hr5 : Kd.C k29 w A5 l5.length l5) (hc5 : l5.length ≤ c5) (h : spec_ClashOfPaths.f k a0 a1 a2 l3 a4 l5 = some (r1, r2, r3)) :
    Calls Try.prog 76 #[.int .i64 a0, .int .i64 a1, .string a2, .slice A3 l3.length c3, .string a4, .slice A5 l5.length c5] w fun e w' => e = .returned (.tuple #[.agg #[.string r1, .string r2], .bool r3]) ∧ Below w.heap.size w w' := by
  have hu46 := Try.underlying46
  have hu29 := Try.underlying29
  have HR3 := Aside0.mk hr3
  have HC3 := Aside0.mk hc3
  clear hr3 hc3
  have HR5 := Aside0.mk hr5
  have HC5 := Aside0.mk hc5
  clear hr5 hc5
  have HB := Aside0.mk (Below.refl w.heap.size w)
  have H : ((spec_PathRoot.f k a0 a1 a2 l3).bind fun bt867 => ((spec_PathRoot.f k a0 a1 a4 l5).bind fun bt873 => (if bt867.2.2.2.2 = true then (if bt873.2.2.2.2 = true then (spec_ClashOfPaths.j0 k a0 a1 a2 l3 a4 l5 (!(bt867.1 == bt873.1) || (!(bt867.2.1 == bt873.2.1) || (!(bt867.2.2.1 == bt873.2.2.1) || (!(bt867.2.2.2.1 == bt873.2.2.2.1)))))) else (spec_ClashOfPaths.j0 k a0 a1 a2 l3 a4 l5 true)) else (spec_ClashOfPaths.j0 k a0 a1 a2 l3 a4 l5 true)))) = some (r1, r2, r3) := h
  clear h
  obtain ⟨⟨t867, t868, t869, t870, t871⟩, A7, H⟩ := bnd_ H
  dsimp only at H
  obtain ⟨⟨t873, t874, t875, t876, t877⟩, A8, H⟩ := bnd_ H
  dsimp only at H
  have HC9 := Aside0.mk H
  clear H
  go_enter Try.func76, Try.ntmps76
  go_upto_region 3 with (first | ((with_reducible refine gate_dst (N := 12) rfl ?_); refine boxE_ (cs := #[.string (⟨#[]⟩ : ByteArray), .string (⟨#[]⟩ : ByteArray)]) (t := 46) ?_; intro gb866 hg w10 hbox hb; have BK866 := Aside0.mk (hbox); have GW866 := sizeB_ hg; have GE866 := sizeB_ hg; replace HB := stepB_ hb; clear hb hbox hg) | ((with_reducible refine gate_callee (f := 50) rfl ?_); refine goL_ (some 23) Try.func50 #[.int .i64 a0, .int .i64 a1, .string a2, .slice A3 l3.length c3] ?_; (with_reducible refine (spec_PathRoot.calls k a0 a1 a2 _ _ l3 t867 t868 t869 t870 t871 _ ?side1 ?side2 A7.out).mono ?_); (case side1 => repeat (first | exact (Kd.C_below HR3.out HB.out) | (with_reducible refine Kd.C_alloc ?_ _) | (with_reducible refine Kd.C_drewN ?_ _) | (with_reducible refine Kd.C_drew ?_))); (case side2 => exact HC3.out); rintro e w11 ⟨rfl, hb⟩; refine ⟨_, rfl, ?_⟩; replace BK866 := blkBel_ BK866.out hb; replace HB := stepB_ hb; (try clear hb)) | ((with_reducible refine gate_dst (N := 14) rfl ?_); refine boxE_ (cs := #[.int .u64 0, .int .u64 0, .int .u64 0, .int .u64 0]) (t := 29) ?_; intro gb872 hg w12 hbox hb; have BK872 := Aside0.mk (hbox); have GW872 := sizeB_ hg; have GE872 := sizeB_ hg; replace HB := stepB_ hb; have NB866_872 := neL_ BK866.out hg; have NB872_866 := neG_ BK866.out hg; replace BK866 := blkBel_ BK866.out hb; clear hb hbox hg; have hnb13 := NB872_866.out; have hnc13 := NB866_872.out; obtain ⟨hcz14_0, hcz14_1, hcz14_2, hcz14_3, hfz14_0, hfz14_1, hfz14_2, hfz14_3⟩ := cz4_ BK872.out) | ((with_reducible refine gate_callee (f := 50) rfl ?_); refine goL_ (some 31) Try.func50 #[.int .i64 a0, .int .i64 a1, .string a4, .slice A5 l5.length c5] ?_; (with_reducible refine (spec_PathRoot.calls k a0 a1 a4 _ _ l5 t873 t874 t875 t876 t877 _ ?side1 ?side2 A8.out).mono ?_); (case side1 => exact Kd.C_below HR5.out bel_); (case side2 => exact HC5.out); rintro e w15 ⟨rfl, hb⟩; refine ⟨_, rfl, ?_⟩; replace BK866 := blkBel_ BK866.out hb; replace BK872 := blkPB_ (cs := #[.int .u64 t867, .int .u64 t868, .int .u64 t869, .int .u64 t870]) BK872.out hb; replace HB := stepB_ hb; (try clear hb)) | ((with_reducible refine gate_dst (N := 16) rfl ?_); refine boxE_ (cs := #[.int .u64 0, .int .u64 0, .int .u64 0, .int .u64 0]) (t := 29) ?_; intro gb878 hg w16 hbox hb; have BK878 := Aside0.mk (hbox); have GW878 := sizeB_ hg; have GE878 := sizeB_ hg; replace HB := stepB_ hb; have NB866_878 := neL_ BK866.out hg; have NB878_866 := neG_ BK866.out hg; replace BK866 := blkBel_ BK866.out hb; have NB872_878 := neL_ BK872.out hg; have NB878_872 := neG_ BK872.out hg; replace BK872 := blkBel_ BK872.out hb; clear hb hbox hg; have hnb17 := NB878_866.out; have hnc17 := NB866_878.out; have hnb18 := NB878_872.out; have hnc18 := NB872_878.out; obtain ⟨hcz19_0, hcz19_1, hcz19_2, hcz19_3, hfz19_0, hfz19_1, hfz19_2, hfz19_3⟩ := cz4_ BK878.out))
  (try simp only [Act.put, List.setIfInBounds_toArray, List.set_cons_zero, List.set_cons_succ])
  go_cut [44] (fun v44 wc => ∃ (kq : Nat) (x44_8 : Bool), v44 = .bool x44_8 ∧ Aside0 (spec_ClashOfPaths.j0 kq a0 a1 a2 l3 a4 l5 x44_8 = some (r1, r2, r3)) ∧ Aside0 (kq ≤ k) ∧ Aside0 (wc.heap[gb866]? = some (.cells #[.string (⟨#[]⟩ : ByteArray), .string (⟨#[]⟩ : ByteArray)] 46 (0, 0))) ∧ Aside0 (wc.heap[gb872]? = some (.cells #[.int .u64 t867, .int .u64 t868, .int .u64 t869, .int .u64 t870] 29 (0, 0))) ∧ Aside0 (wc.heap[gb878]? = some (.cells #[.int .u64 t873, .int .u64 t874, .int .u64 t875, .int .u64 t876] 29 (0, 0))) ∧ Aside0 (Below w.heap.size w wc))
  case first =>
    have H := HC9.out
    clear HC9
    by_cases c20 : t871 = true
    · subst c20
      rw [if_pos rfl] at H
      by_cases c21 : t877 = true
      · subst c21
        rw [if_pos rfl] at H
        have H' := Aside0.mk H
        clear H
        have hnb22 := NB872_866.out
        have hnc22 := NB866_872.out
        have hnb23 := NB872_878.out
        have hnc23 := NB878_872.out
        obtain ⟨hcz24_0, hcz24_1, hcz24_2, hcz24_3, hfz24_0, hfz24_1, hfz24_2, hfz24_3⟩ := cz4_ BK872.out
        have hnb25 := NB878_866.out
        have hnc25 := NB866_878.out
        obtain ⟨hcz26_0, hcz26_1, hcz26_2, hcz26_3, hfz26_0, hfz26_1, hfz26_2, hfz26_3⟩ := cz4_ BK878.out
        go_wp2
        go_meet
        case rel => exact ⟨_, ((!(t867 == t873) || (!(t868 == t874) || (!(t869 == t875) || (!(t870 == t876)))))), (by first | rfl | (simp; done) | (simp [*]; done)), H', ⟨by first | omega | exact Nat.le_refl _⟩, ⟨blkU_ BK866.out⟩, ⟨blkU_ BK872.out⟩, ⟨blkF_ BK878.out⟩, ⟨bel_⟩⟩
      · replace c21 := Bool.eq_false_iff.mpr c21
        subst c21
        rw [if_neg (show ¬ (false = true) by decide)] at H
        have H' := Aside0.mk H
        clear H
        go_wp2
        go_meet
        case rel => exact ⟨_, (true), (by first | rfl | (simp; done) | (simp [*]; done)), H', ⟨by first | omega | exact Nat.le_refl _⟩, ⟨blkU_ BK866.out⟩, ⟨blkU_ BK872.out⟩, ⟨blkF_ BK878.out⟩, ⟨bel_⟩⟩
    · replace c20 := Bool.eq_false_iff.mpr c20
      subst c20
      rw [if_neg (show ¬ (false = true) by decide)] at H
      have H' := Aside0.mk H
      clear H
      go_wp2
      go_meet
      case rel => exact ⟨_, (true), (by first | rfl | (simp; done) | (simp [*]; done)), H', ⟨by first | omega | exact Nat.le_refl _⟩, ⟨blkU_ BK866.out⟩, ⟨blkU_ BK872.out⟩, ⟨blkF_ BK878.out⟩, ⟨bel_⟩⟩
  case rest =>
    clear HC9
    (try clear c3); (try clear c5); (try clear c20); (try clear c21); (try clear hcz14_0); (try clear hcz14_1); (try clear hcz14_2); (try clear hcz14_3); (try clear hcz19_0); (try clear hcz19_1); (try clear hcz19_2); (try clear hcz19_3); (try clear hcz24_0); (try clear hcz24_1); (try clear hcz24_2); (try clear hcz24_3); (try clear hcz26_0); (try clear hcz26_1); (try clear hcz26_2); (try clear hcz26_3); (try clear hfz14_0); (try clear hfz14_1); (try clear hfz14_2); (try clear hfz14_3); (try clear hfz19_0); (try clear hfz19_1); (try clear hfz19_2); (try clear hfz19_3); (try clear hfz24_0); (try clear hfz24_1); (try clear hfz24_2); (try clear hfz24_3); (try clear hfz26_0); (try clear hfz26_1); (try clear hfz26_2); (try clear hfz26_3)
    obtain ⟨kq, x44_8, rfl, HA, HJ8, BK866, BK872, BK878, HB⟩ := hcut
    cases kq with
    | zero => exact absurd HA.out (by simp [spec_ClashOfPaths.j0])
    | succ kj8 =>
      have H := HA.out
      clear HA
      simp only [spec_ClashOfPaths.j0] at H
      by_cases c27 : x44_8 = true
      · subst c27
        rw [if_pos rfl] at H
        simp only [Option.some.injEq, Prod.mk.injEq] at H
        obtain ⟨rfl, rfl, rfl⟩ := H
        have hnb28 := NB866_872.out
        have hnc28 := NB872_866.out
        have hnb29 := NB866_878.out
        have hnc29 := NB878_866.out
        obtain ⟨hcz30_0, hcz30_1, hfz30_0, hfz30_1⟩ := cz2_ BK866.out
        go_wp2
        refine bodyPost_ret (results_ct rfl _ _ gb866 46 #[.string (⟨#[]⟩ : ByteArray), .string (⟨#[]⟩ : ByteArray)] (0, 0) _ rfl (blkF_ BK866.out) Try.underlying46 rfl (by kernel_rfl)) rfl ?_
        exact ⟨rfl_, bel_⟩
      · replace c27 := Bool.eq_false_iff.mpr c27
        subst c27
        rw [if_neg (show ¬ (false = true) by decide)] at H
        obtain ⟨t879, A31, H⟩ := bnd_ H
        obtain ⟨t882, A32, H⟩ := bnd_ H
        obtain ⟨⟨t885, t886, t887⟩, A33, H⟩ := bnd_ H
        dsimp only at H
        simp only [Option.some.injEq, Prod.mk.injEq] at H
        obtain ⟨rfl, rfl, rfl⟩ := H
        go_wp2_with (first | ((with_reducible refine gate_callee (f := 93) rfl ?_); refine goL_ (some 50) Try.func93 #[.int .i64 a0, .int .i64 a1, .string a2, .slice A3 l3.length c3] ?_; (with_reducible refine (spec_l4Down.calls kj8 a0 a1 a2 _ _ l3 t879 _ ?side1 ?side2 A31.out).mono ?_); (case side1 => repeat (first | exact (Kd.C_below HR3.out HB.out) | (with_reducible refine Kd.C_alloc ?_ _) | (with_reducible refine Kd.C_drewN ?_ _) | (with_reducible refine Kd.C_drew ?_))); (case side2 => exact HC3.out); rintro e w34 ⟨v880, rfl, ho0, hb⟩; refine ⟨_, rfl, ?_⟩; have HO881 := Aside0.mk (Kd.R_lower ho0 (below_size bel_)); replace BK866 := blkBel_ BK866.out hb; replace BK872 := blkBel_ BK872.out hb; replace BK878 := blkBel_ BK878.out hb; replace HB := stepB_ hb; (try clear hb); (try clear ho0)) | ((with_reducible refine gate_callee (f := 93) rfl ?_); refine goL_ (some 55) Try.func93 #[.int .i64 a0, .int .i64 a1, .string a4, .slice A5 l5.length c5] ?_; (with_reducible refine (spec_l4Down.calls kj8 a0 a1 a4 _ _ l5 t882 _ ?side1 ?side2 A32.out).mono ?_); (case side1 => repeat (first | exact (Kd.C_below HR5.out HB.out) | (with_reducible refine Kd.C_alloc ?_ _) | (with_reducible refine Kd.C_drewN ?_ _) | (with_reducible refine Kd.C_drew ?_))); (case side2 => exact HC5.out); rintro e w35 ⟨v883, rfl, ho0, hb⟩; refine ⟨_, rfl, ?_⟩; have HO884 := Aside0.mk (Kd.R_lower (Kd.R_new' ho0 (Kd.R_lt (kdU_ HO881.out))) (below_size bel_)); replace HO881 := Aside0.mk (Kd.R_elder' (kdU_ HO881.out) (Kd.R_base ho0) hb); replace BK866 := blkBel_ BK866.out hb; replace BK872 := blkBel_ BK872.out hb; replace BK878 := blkBel_ BK878.out hb; replace HB := stepB_ hb; (try clear hb); (try clear ho0); obtain ⟨Ao36, co36, eo36⟩ := Kd.R_slice HO881.out; subst eo36; obtain ⟨Ao37, co37, eo37⟩ := Kd.R_slice HO884.out; subst eo37) | ((with_reducible refine gate_callee (f := 92) rfl ?_); refine goL_ (some 56) Try.func92 #[.slice Ao36 t879.length co36, .slice Ao37 t882.length co37] ?_; (with_reducible refine (spec_ClashFirst.calls kj8 _ _ t879 _ _ t882 t885 t886 t887 _ ?side1 ?side2 ?side3 ?side4 A33.out).mono ?_); (case side1 => repeat (first | exact (Kd.R_reads' HO881.out).2.2 | (with_reducible refine Kd.C_alloc ?_ _) | (with_reducible refine Kd.C_drewN ?_ _) | (with_reducible refine Kd.C_drew ?_))); (case side2 => exact (Kd.R_reads' HO881.out).2.1); (case side3 => repeat (first | exact (Kd.R_reads' HO884.out).2.2 | (with_reducible refine Kd.C_alloc ?_ _) | (with_reducible refine Kd.C_drewN ?_ _) | (with_reducible refine Kd.C_drew ?_))); (case side4 => exact (Kd.R_reads' HO884.out).2.1); rintro e w38 ⟨rfl, hb⟩; refine ⟨_, rfl, ?_⟩; replace HO881 := Aside0.mk (Kd.R_below (kdU_ HO881.out) hb); replace HO884 := Aside0.mk (Kd.R_below (kdU_ HO884.out) hb); replace BK866 := blkBel_ BK866.out hb; replace BK872 := blkBel_ BK872.out hb; replace BK878 := blkBel_ BK878.out hb; replace HB := stepB_ hb; (try clear hb); have hnb39 := NB866_872.out; have hnc39 := NB872_866.out; have hnb40 := NB866_878.out; have hnc40 := NB878_866.out; obtain ⟨hcz41_0, hcz41_1, hfz41_0, hfz41_1⟩ := cz2_ BK866.out))
        refine bodyPost_ret (results_ct rfl _ _ gb866 46 #[.string t885, .string t886] (0, 0) _ rfl (blkF_ BK866.out) Try.underlying46 rfl (by kernel_rfl)) rfl ?_
        exact ⟨rfl_, bel_⟩

end
end Go.Proofs.Ytemfciflhbhobaa.B
