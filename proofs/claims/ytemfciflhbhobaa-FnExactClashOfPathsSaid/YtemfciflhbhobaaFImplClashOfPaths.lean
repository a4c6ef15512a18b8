/- What the Go functions loop.example/belfry/impl.ClashOfPaths do is what the Lean functions .f of their names here say; condition: .f gives an answer. (Written by the session's program pp.py over the kit's print; Lean checks it.) -/
import Derived.Test.YtemfciflhbhobaaK
import Derived.Test.YtemfciflhbhobaaM
import Derived.Test.YtemfciflhbhobaaGEq1
import Derived.Test.YtemfciflhbhobaaGFirst1
import Derived.Test.YtemfciflhbhobaaGRow1
import Derived.Test.YtemfciflhbhobaaGUp2
namespace Go.Proofs.Ytemfciflhbhobaa.B
open Go.RowKit Go.Proofs.YtemfciflhbhobaaW.PrintWords Go.Proofs.YtemfciflhbhobaaW.PrintLast Go.Proofs.YtemfciflhbhobaaW.PrintMore
attribute [local go_sem] max2_int min2_int max_two min_two max_three min_three max_four min_four   -- for this text's walks alone
set_option linter.unusedVariables false
set_option linter.unusedSimpArgs false

section
attribute [local go_sem high] eqA29
/-! ### impl_ClashOfPaths: function 77 -/
def impl_ClashOfPaths.j0 : Nat → Int → Int → ByteArray → List (S29) → ByteArray → List (S29) → Bool → Option (ByteArray × ByteArray × Bool)
  | 0, _, _, _, _, _, _, _ => none
  | k + 1, x0, x1, x2, x3, x4, x5, x48 => if x48 = true then (some ((⟨#[]⟩ : ByteArray), (⟨#[]⟩ : ByteArray), false)) else ((impl_ClashRow.f k x0 x1 x2 x3).bind fun bt929 => ((impl_ClashRow.f k x0 x1 x4 x5).bind fun bt933 => ((impl_ClashFirst.f k bt929.1 bt933.1).bind fun bt937 => (some (bt937.1, bt937.2.1, bt937.2.2)))))
def impl_ClashOfPaths.f (k : Nat) (a0 : Int) (a1 : Int) (a2 : ByteArray) (l3 : List (S29)) (a4 : ByteArray) (l5 : List (S29)) : Option (ByteArray × ByteArray × Bool) := (impl_PathRoot.f k a0 a1 a2 l3).bind fun bt917 => ((impl_PathRoot.f k a0 a1 a4 l5).bind fun bt923 => (if bt917.2.2.2.2 = true then (if bt923.2.2.2.2 = true then (impl_ClashOfPaths.j0 k a0 a1 a2 l3 a4 l5 (!(bt917.1 == bt923.1) || (!(bt917.2.1 == bt923.2.1) || (!(bt917.2.2.1 == bt923.2.2.1) || (!(bt917.2.2.2.1 == bt923.2.2.2.1)))))) else (impl_ClashOfPaths.j0 k a0 a1 a2 l3 a4 l5 true)) else (impl_ClashOfPaths.j0 k a0 a1 a2 l3 a4 l5 true)))
theorem impl_ClashOfPaths.mono_l : ∀ k, (∀ y0 y1 y2 y3 y4 y5 y6, LeO (impl_ClashOfPaths.j0 k y0 y1 y2 y3 y4 y5 y6) (impl_ClashOfPaths.j0 (k + 1) y0 y1 y2 y3 y4 y5 y6))
  | 0 => fun _ _ _ _ _ _ _ r h => by simp [impl_ClashOfPaths.j0] at h
  | k + 1 => by
    have ih0 := impl_ClashOfPaths.mono_l k
    · intro y0 y1 y2 y3 y4 y5 y6
      unfold impl_ClashOfPaths.j0
      repeat' first | (with_reducible first | exact ih0 _ _ _ _ _ _ _ | exact impl_ClashFirst.mono _ _ _ | exact impl_ClashRow.mono _ _ _ _ _ | exact impl_PathRoot.mono _ _ _ _ _ | exact LeO.refl _ | exact LeO.none _ | refine LeO.ite ?_ ?_ | refine LeO.bind ?_ (fun _ => ?_)) | exact ih0 _ _ _ _ _ _ _ | exact LeO.none _ | refine LeO.ite ?_ ?_ | refine LeO.bind ?_ (fun _ => ?_)
theorem impl_ClashOfPaths.mono : ∀ a0 a1 a2 a3 a4 a5 k, LeO (impl_ClashOfPaths.f k a0 a1 a2 a3 a4 a5) (impl_ClashOfPaths.f (k + 1) a0 a1 a2 a3 a4 a5) := by
  intro a0 a1 a2 a3 a4 a5 k
  have ih0 := impl_ClashOfPaths.mono_l k
  unfold impl_ClashOfPaths.f
  repeat' first | (with_reducible first | exact ih0 _ _ _ _ _ _ _ | exact impl_ClashFirst.mono _ _ _ | exact impl_ClashRow.mono _ _ _ _ _ | exact impl_PathRoot.mono _ _ _ _ _ | exact LeO.refl _ | exact LeO.none _ | refine LeO.ite ?_ ?_ | refine LeO.bind ?_ (fun _ => ?_)) | exact ih0 _ _ _ _ _ _ _ | exact LeO.none _ | refine LeO.ite ?_ ?_ | refine LeO.bind ?_ (fun _ => ?_)
set_option maxHeartbeats 8000000 in
set_option maxRecDepth 100000 in
theorem impl_ClashOfPaths.calls (k : Nat) (a0 : Int) (a1 : Int) (a2 : ByteArray) (A3 : Option Addr) (c3 : Nat) (l3 : List (S29)) (a4 : ByteArray) (A5 : Option Addr) (c5 : Nat) (l5 : List (S29)) (r1 : ByteArray) (r2 : ByteArray) (r3 : Bool) (w : World) (hr3 : Kd.C k29 w A3 l3.length l3) (hc3 : l3.length ≤ c3) (hr5 : Kd.C k29 w A5 l5.length l5) (hc5 : l5.length ≤ c5) (h : impl_ClashOfPaths.f k a0 a1 a2 l3 a4 l5 = some (r1, r2, r3)) :
    Calls Try.prog 77 #[.int .i64 a0, .int .i64 a1, .string a2, .slice A3 l3.length c3, .string a4, .slice A5 l5.length c5] w fun e w' => e = .returned (.tuple #[.agg #[.string r1, .string r2], .bool r3]) ∧ Below w.heap.size w w' := by
  have hu46 := Try.underlying46
  have hu29 := Try.underlying29
  have HR3 := Aside0.mk hr3
  have HC3 := Aside0.mk hc3
  clear hr3 hc3
  have HR5 := Aside0.mk hr5
  have HC5 := Aside0.mk hc5
  clear hr5 hc5
  have HB := Aside0.mk (Below.refl w.heap.size w)
  have H : ((impl_PathRoot.f k a0 a1 a2 l3).bind fun bt917 => ((impl_PathRoot.f k a0 a1 a4 l5).bind fun bt923 => (if bt917.2.2.2.2 = true then (if bt923.2.2.2.2 = true then (impl_ClashOfPaths.j0 k a0 a1 a2 l3 a4 l5 (!(bt917.1 == bt923.1) || (!(bt917.2.1 == bt923.2.1) || (!(bt917.2.2.1 == bt923.2.2.1) || (!(bt917.2.2.2.1 == bt923.2.2.2.1)))))) else (impl_ClashOfPaths.j0 k a0 a1 a2 l3 a4 l5 true)) else (impl_ClashOfPaths.j0 k a0 a1 a2 l3 a4 l5 true)))) = some (r1, r2, r3) := h
  clear h
  obtain ⟨⟨t917, t918, t919, t920, t921⟩, A7, H⟩ := bnd_ H
  dsimp only at H
  obtain ⟨⟨t923, t924, t925, t926, t927⟩, A8, H⟩ := bnd_ H
  dsimp only at H
  have HC9 := Aside0.mk H
  clear H
  go_enter Try.func77, Try.ntmps77
  go_upto_region 3 with (first | ((with_reducible refine gate_dst (N := 12) rfl ?_); refine boxE_ (cs := #[.string (⟨#[]⟩ : ByteArray), .string (⟨#[]⟩ : ByteArray)]) (t := 46) ?_; intro gb916 hg w10 hbox hb; have BK916 := Aside0.mk (hbox); have GW916 := sizeB_ hg; have GE916 := sizeB_ hg; replace HB := stepB_ hb; clear hb hbox hg) | ((with_reducible refine gate_callee (f := 51) rfl ?_); refine goL_ (some 27) Try.func51 #[.int .i64 a0, .int .i64 a1, .string a2, .slice A3 l3.length c3] ?_; (with_reducible refine (impl_PathRoot.calls k a0 a1 a2 _ _ l3 t917 t918 t919 t920 t921 _ ?side1 ?side2 A7.out).mono ?_); (case side1 => repeat (first | exact (Kd.C_below HR3.out HB.out) | (with_reducible refine Kd.C_alloc ?_ _) | (with_reducible refine Kd.C_drewN ?_ _) | (with_reducible refine Kd.C_drew ?_))); (case side2 => exact HC3.out); rintro e w11 ⟨rfl, hb⟩; refine ⟨_, rfl, ?_⟩; replace BK916 := blkBel_ BK916.out hb; replace HB := stepB_ hb; (try clear hb)) | ((with_reducible refine gate_dst (N := 14) rfl ?_); refine boxE_ (cs := #[.int .u64 0, .int .u64 0, .int .u64 0, .int .u64 0]) (t := 29) ?_; intro gb922 hg w12 hbox hb; have BK922 := Aside0.mk (hbox); have GW922 := sizeB_ hg; have GE922 := sizeB_ hg; replace HB := stepB_ hb; have NB916_922 := neL_ BK916.out hg; have NB922_916 := neG_ BK916.out hg; replace BK916 := blkBel_ BK916.out hb; clear hb hbox hg; have hnb13 := NB922_916.out; have hnc13 := NB916_922.out; obtain ⟨hcz14_0, hcz14_1, hcz14_2, hcz14_3, hfz14_0, hfz14_1, hfz14_2, hfz14_3⟩ := cz4_ BK922.out) | ((with_reducible refine gate_callee (f := 51) rfl ?_); refine goL_ (some 35) Try.func51 #[.int .i64 a0, .int .i64 a1, .string a4, .slice A5 l5.length c5] ?_; (with_reducible refine (impl_PathRoot.calls k a0 a1 a4 _ _ l5 t923 t924 t925 t926 t927 _ ?side1 ?side2 A8.out).mono ?_); (case side1 => exact Kd.C_below HR5.out bel_); (case side2 => exact HC5.out); rintro e w15 ⟨rfl, hb⟩; refine ⟨_, rfl, ?_⟩; replace BK916 := blkBel_ BK916.out hb; replace BK922 := blkPB_ (cs := #[.int .u64 t917, .int .u64 t918, .int .u64 t919, .int .u64 t920]) BK922.out hb; replace HB := stepB_ hb; (try clear hb)) | ((with_reducible refine gate_dst (N := 16) rfl ?_); refine boxE_ (cs := #[.int .u64 0, .int .u64 0, .int .u64 0, .int .u64 0]) (t := 29) ?_; intro gb928 hg w16 hbox hb; have BK928 := Aside0.mk (hbox); have GW928 := sizeB_ hg; have GE928 := sizeB_ hg; replace HB := stepB_ hb; have NB916_928 := neL_ BK916.out hg; have NB928_916 := neG_ BK916.out hg; replace BK916 := blkBel_ BK916.out hb; have NB922_928 := neL_ BK922.out hg; have NB928_922 := neG_ BK922.out hg; replace BK922 := blkBel_ BK922.out hb; clear hb hbox hg; have hnb17 := NB928_916.out; have hnc17 := NB916_928.out; have hnb18 := NB928_922.out; have hnc18 := NB922_928.out; obtain ⟨hcz19_0, hcz19_1, hcz19_2, hcz19_3, hfz19_0, hfz19_1, hfz19_2, hfz19_3⟩ := cz4_ BK928.out))
  (try simp only [Act.put, List.setIfInBounds_toArray, List.set_cons_zero, List.set_cons_succ])
  go_cut [48] (fun v48 wc => ∃ (kq : Nat) (x48_8 : Bool), v48 = .bool x48_8 ∧ Aside0 (impl_ClashOfPaths.j0 kq a0 a1 a2 l3 a4 l5 x48_8 = some (r1, r2, r3)) ∧ Aside0 (kq ≤ k) ∧ Aside0 (wc.heap[gb916]? = some (.cells #[.string (⟨#[]⟩ : ByteArray), .string (⟨#[]⟩ : ByteArray)] 46 (0, 0))) ∧ Aside0 (wc.heap[gb922]? = some (.cells #[.int .u64 t917, .int .u64 t918, .int .u64 t919, .int .u64 t920] 29 (0, 0))) ∧ Aside0 (wc.heap[gb928]? = some (.cells #[.int .u64 t923, .int .u64 t924, .int .u64 t925, .int .u64 t926] 29 (0, 0))) ∧ Aside0 (Below w.heap.size w wc))
  case first =>
    have H := HC9.out
    clear HC9
    by_cases c20 : t921 = true
    · subst c20
      rw [if_pos rfl] at H
      by_cases c21 : t927 = true
      · subst c21
        rw [if_pos rfl] at H
        have H' := Aside0.mk H
        clear H
        have hnb22 := NB922_916.out
        have hnc22 := NB916_922.out
        have hnb23 := NB922_928.out
        have hnc23 := NB928_922.out
        obtain ⟨hcz24_0, hcz24_1, hcz24_2, hcz24_3, hfz24_0, hfz24_1, hfz24_2, hfz24_3⟩ := cz4_ BK922.out
        have hnb25 := NB928_916.out
        have hnc25 := NB916_928.out
        obtain ⟨hcz26_0, hcz26_1, hcz26_2, hcz26_3, hfz26_0, hfz26_1, hfz26_2, hfz26_3⟩ := cz4_ BK928.out
        go_wp2
        go_meet
        case rel => exact ⟨_, ((!(t917 == t923) || (!(t918 == t924) || (!(t919 == t925) || (!(t920 == t926)))))), (by first | rfl | (simp; done) | (simp [*]; done)), H', ⟨by first | omega | exact Nat.le_refl _⟩, ⟨blkU_ BK916.out⟩, ⟨blkU_ BK922.out⟩, ⟨blkF_ BK928.out⟩, ⟨bel_⟩⟩
      · replace c21 := Bool.eq_false_iff.mpr c21
        subst c21
        rw [if_neg (show ¬ (false = true) by decide)] at H
        have H' := Aside0.mk H
        clear H
        go_wp2
        go_meet
        case rel => exact ⟨_, (true), (by first | rfl | (simp; done) | (simp [*]; done)), H', ⟨by first | omega | exact Nat.le_refl _⟩, ⟨blkU_ BK916.out⟩, ⟨blkU_ BK922.out⟩, ⟨blkF_ BK928.out⟩, ⟨bel_⟩⟩
    · replace c20 := Bool.eq_false_iff.mpr c20
      subst c20
      rw [if_neg (show ¬ (false = true) by decide)] at H
      have H' := Aside0.mk H
      clear H
      go_wp2
      go_meet
      case rel => exact ⟨_, (true), (by first | rfl | (simp; done) | (simp [*]; done)), H', ⟨by first | omega | exact Nat.le_refl _⟩, ⟨blkU_ BK916.out⟩, ⟨blkU_ BK922.out⟩, ⟨blkF_ BK928.out⟩, ⟨bel_⟩⟩
  case rest =>
    clear HC9
    (try clear c3); (try clear c5); (try clear c20); (try clear c21); (try clear hcz14_0); (try clear hcz14_1); (try clear hcz14_2); (try clear hcz14_3); (try clear hcz19_0); (try clear hcz19_1); (try clear hcz19_2); (try clear hcz19_3); (try clear hcz24_0); (try clear hcz24_1); (try clear hcz24_2); (try clear hcz24_3); (try clear hcz26_0); (try clear hcz26_1); (try clear hcz26_2); (try clear hcz26_3); (try clear hfz14_0); (try clear hfz14_1); (try clear hfz14_2); (try clear hfz14_3); (try clear hfz19_0); (try clear hfz19_1); (try clear hfz19_2); (try clear hfz19_3); (try clear hfz24_0); (try clear hfz24_1); (try clear hfz24_2); (try clear hfz24_3); (try clear hfz26_0); (try clear hfz26_1); (try clear hfz26_2); (try clear hfz26_3)
    obtain ⟨kq, x48_8, rfl, HA, HJ8, BK916, BK922, BK928, HB⟩ := hcut
    cases kq with
    | zero => exact absurd HA.out (by simp [impl_ClashOfPaths.j0])
    | succ kj8 =>
      have H := HA.out
      clear HA
      simp only [impl_ClashOfPaths.j0] at H
      by_cases c27 : x48_8 = true
      · subst c27
        rw [if_pos rfl] at H
        simp only [Option.some.injEq, Prod.mk.injEq] at H
        obtain ⟨rfl, rfl, rfl⟩ := H
        have hnb28 := NB916_922.out
        have hnc28 := NB922_916.out
        have hnb29 := NB916_928.out
        have hnc29 := NB928_916.out
        obtain ⟨hcz30_0, hcz30_1, hfz30_0, hfz30_1⟩ := cz2_ BK916.out
        go_wp2
        refine bodyPost_ret (results_ct rfl _ _ gb916 46 #[.string (⟨#[]⟩ : ByteArray), .string (⟨#[]⟩ : ByteArray)] (0, 0) _ rfl (blkF_ BK916.out) Try.underlying46 rfl (by kernel_rfl)) rfl ?_
        exact ⟨rfl_, bel_⟩
      · replace c27 := Bool.eq_false_iff.mpr c27
        subst c27
        rw [if_neg (show ¬ (false = true) by decide)] at H
        obtain ⟨⟨t929, t930⟩, A31, H⟩ := bnd_ H
        dsimp only at H
        obtain ⟨⟨t933, t934⟩, A32, H⟩ := bnd_ H
        dsimp only at H
        obtain ⟨⟨t937, t938, t939⟩, A33, H⟩ := bnd_ H
        dsimp only at H
        simp only [Option.some.injEq, Prod.mk.injEq] at H
        obtain ⟨rfl, rfl, rfl⟩ := H
        go_wp2_with (first | ((with_reducible refine gate_callee (f := 81) rfl ?_); refine goL_ (some 55) Try.func81 #[.int .i64 a0, .int .i64 a1, .string a2, .slice A3 l3.length c3] ?_; (with_reducible refine (impl_ClashRow.calls kj8 a0 a1 a2 _ _ l3 t929 t930 _ ?side1 ?side2 A31.out).mono ?_); (case side1 => repeat (first | exact (Kd.C_below HR3.out HB.out) | (with_reducible refine Kd.C_alloc ?_ _) | (with_reducible refine Kd.C_drewN ?_ _) | (with_reducible refine Kd.C_drew ?_))); (case side2 => exact HC3.out); rintro e w34 ⟨v931, rfl, ho0, hb⟩; refine ⟨_, rfl, ?_⟩; have HO932 := Aside0.mk (Kd.R_lower ho0 (below_size bel_)); replace BK916 := blkBel_ BK916.out hb; replace BK922 := blkBel_ BK922.out hb; replace BK928 := blkBel_ BK928.out hb; replace HB := stepB_ hb; (try clear hb); (try clear ho0)) | ((with_reducible refine gate_callee (f := 81) rfl ?_); refine goL_ (some 63) Try.func81 #[.int .i64 a0, .int .i64 a1, .string a4, .slice A5 l5.length c5] ?_; (with_reducible refine (impl_ClashRow.calls kj8 a0 a1 a4 _ _ l5 t933 t934 _ ?side1 ?side2 A32.out).mono ?_); (case side1 => repeat (first | exact (Kd.C_below HR5.out HB.out) | (with_reducible refine Kd.C_alloc ?_ _) | (with_reducible refine Kd.C_drewN ?_ _) | (with_reducible refine Kd.C_drew ?_))); (case side2 => exact HC5.out); rintro e w35 ⟨v935, rfl, ho0, hb⟩; refine ⟨_, rfl, ?_⟩; have HO936 := Aside0.mk (Kd.R_lower (Kd.R_new' ho0 (Kd.R_lt (kdU_ HO932.out))) (below_size bel_)); replace HO932 := Aside0.mk (Kd.R_elder' (kdU_ HO932.out) (Kd.R_base ho0) hb); replace BK916 := blkBel_ BK916.out hb; replace BK922 := blkBel_ BK922.out hb; replace BK928 := blkBel_ BK928.out hb; replace HB := stepB_ hb; (try clear hb); (try clear ho0); obtain ⟨Ao36, co36, eo36⟩ := Kd.R_slice HO932.out; subst eo36; obtain ⟨Ao37, co37, eo37⟩ := Kd.R_slice HO936.out; subst eo37) | ((with_reducible refine gate_callee (f := 95) rfl ?_); refine goL_ (some 68) Try.func95 #[.slice Ao36 t929.length co36, .slice Ao37 t933.length co37] ?_; (with_reducible refine (impl_ClashFirst.calls kj8 _ _ t929 _ _ t933 t937 t938 t939 _ ?side1 ?side2 ?side3 ?side4 A33.out).mono ?_); (case side1 => repeat (first | exact (Kd.R_reads' HO932.out).2.2 | (with_reducible refine Kd.C_alloc ?_ _) | (with_reducible refine Kd.C_drewN ?_ _) | (with_reducible refine Kd.C_drew ?_))); (case side2 => exact (Kd.R_reads' HO932.out).2.1); (case side3 => repeat (first | exact (Kd.R_reads' HO936.out).2.2 | (with_reducible refine Kd.C_alloc ?_ _) | (with_reducible refine Kd.C_drewN ?_ _) | (with_reducible refine Kd.C_drew ?_))); (case side4 => exact (Kd.R_reads' HO936.out).2.1); rintro e w38 ⟨rfl, hb⟩; refine ⟨_, rfl, ?_⟩; replace HO932 := Aside0.mk (Kd.R_below (kdU_ HO932.out) hb); replace HO936 := Aside0.mk (Kd.R_below (kdU_ HO936.out) hb); replace BK916 := blkBel_ BK916.out hb; replace BK922 := blkBel_ BK922.out hb; replace BK928 := blkBel_ BK928.out hb; replace HB := stepB_ hb; (try clear hb); have hnb39 := NB916_922.out; have hnc39 := NB922_916.out; have hnb40 := NB916_928.out; have hnc40 := NB928_916.out; obtain ⟨hcz41_0, hcz41_1, hfz41_0, hfz41_1⟩ := cz2_ BK916.out))
        refine bodyPost_ret (results_ct rfl _ _ gb916 46 #[.string t937, .string t938] (0, 0) _ rfl (blkF_ BK916.out) Try.underlying46 rfl (by kernel_rfl)) rfl ?_
        exact ⟨rfl_, bel_⟩

end
end Go.Proofs.Ytemfciflhbhobaa.B
