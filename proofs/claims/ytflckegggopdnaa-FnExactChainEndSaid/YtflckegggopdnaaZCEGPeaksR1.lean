/- What the Go functions loop.example/belfry/spec.PeaksRoot, loop.example/belfry/impl.PeaksRoot do is what the Lean functions .f of their names here say; condition: .f gives an answer. (Written by the session's program pp.py over the kit's print; Lean checks it.) -/
import Derived.Test.YtflckegggopdnaaZCEK
import Derived.Test.YtflckegggopdnaaZCEM
import Derived.Test.YtflckegggopdnaaZCEGImplHash1
import Derived.Test.YtflckegggopdnaaZCEGImplPair1
import Derived.Test.YtflckegggopdnaaZCEGSpecHash1
import Derived.Test.YtflckegggopdnaaZCEGSpecPair1
namespace Go.Proofs.Ytflckegggopdnaa.B
open Go.RowKit Go.Proofs.YtflckegggopdnaaW.PrintWords Go.Proofs.YtflckegggopdnaaW.PrintLast Go.Proofs.YtflckegggopdnaaW.PrintMore
attribute [local go_sem] max2_int min2_int max_two min_two max_three min_three max_four min_four
set_option linter.unusedVariables false
set_option linter.unusedSimpArgs false
section
def spec_PeaksRoot.l0 : Nat → List (S29) → Int → Int → Int → Int → Int → Option (Int × Int × Int × Int)
  | 0, _, _, _, _, _, _ => none
  | k + 1, x0, x4, x180000, x180001, x180002, x180003 => if x4 ≥ 0 then (if 0 ≤ x4 then (if x4 < (x0.length : Int) then ((spec_HashPair.f k ((rd_T29 x0 x4).f0) ((rd_T29 x0 x4).f1) ((rd_T29 x0 x4).f2) ((rd_T29 x0 x4).f3) x180000 x180001 x180002 x180003).bind fun bt181 => (spec_PeaksRoot.l0 k x0 (wrap64 (x4 - 1)) bt181.1 bt181.2.1 bt181.2.2.1 bt181.2.2.2)) else (none)) else (none)) else (some (x180000, x180001, x180002, x180003))
def spec_PeaksRoot.f (k : Nat) (l0 : List (S29)) : Option (Int × Int × Int × Int) := if (l0.length : Int) > 8 then (some (0, 0, 0, 0)) else (if (l0.length : Int) = 0 then ((spec_HashOf.f k (⟨#[]⟩ : ByteArray)).bind fun bt174 => (some (bt174.1, bt174.2.1, bt174.2.2.1, bt174.2.2.2))) else (if 0 ≤ (wrap64 ((l0.length : Int) - 1)) then (if (wrap64 ((l0.length : Int) - 1)) < (l0.length : Int) then (spec_PeaksRoot.l0 k l0 (wrap64 ((l0.length : Int) - 2)) ((rd_T29 l0 (wrap64 ((l0.length : Int) - 1))).f0) ((rd_T29 l0 (wrap64 ((l0.length : Int) - 1))).f1) ((rd_T29 l0 (wrap64 ((l0.length : Int) - 1))).f2) ((rd_T29 l0 (wrap64 ((l0.length : Int) - 1))).f3)) else (none)) else (none)))
set_option maxHeartbeats 8000000 in
set_option maxRecDepth 100000 in
theorem spec_PeaksRoot.calls (k : Nat) (A0 : Option Addr) (c0 : Nat) (l0 : List (S29)) (r1 : Int) (r2 : Int) (r3 : Int) (r4 : Int) (w : World) (hr0 : Kd.C k29 w A0 l0.length l0) (hc0 : l0.length ≤ c0) (h : spec_PeaksRoot.f k l0 = some (r1, r2, r3, r4)) :
    Calls Try.prog 73 #[.slice A0 l0.length c0] w fun e w' => e = .returned (.agg #[.int .u64 r1, .int .u64 r2, .int .u64 r3, .int .u64 r4]) ∧ Below w.heap.size w w' := by
  have hu29 := Try.underlying29
  have HR0 := Aside0.mk hr0
  have HC0 := Aside0.mk hc0
  clear hr0 hc0
  have HB := Aside0.mk (Below.refl w.heap.size w)
  have H : (if (l0.length : Int) > 8 then (some (0, 0, 0, 0)) else (if (l0.length : Int) = 0 then ((spec_HashOf.f k (⟨#[]⟩ : ByteArray)).bind fun bt174 => (some (bt174.1, bt174.2.1, bt174.2.2.1, bt174.2.2.2))) else (if 0 ≤ (wrap64 ((l0.length : Int) - 1)) then (if (wrap64 ((l0.length : Int) - 1)) < (l0.length : Int) then (spec_PeaksRoot.l0 k l0 (wrap64 ((l0.length : Int) - 2)) ((rd_T29 l0 (wrap64 ((l0.length : Int) - 1))).f0) ((rd_T29 l0 (wrap64 ((l0.length : Int) - 1))).f1) ((rd_T29 l0 (wrap64 ((l0.length : Int) - 1))).f2) ((rd_T29 l0 (wrap64 ((l0.length : Int) - 1))).f3)) else (none)) else (none)))) = some (r1, r2, r3, r4) := h
  clear h
  by_cases c2 : (l0.length : Int) > 8
  · rw [if_pos c2] at H
    have c2b0 : decide (8 < (l0.length : Int)) = true := decide_eq_true c2
    have c2b1 : decide (8 < l0.length) = true := decide_eq_true (by omega)
    clear c2
    simp only [Option.some.injEq, Prod.mk.injEq] at H
    obtain ⟨rfl, rfl, rfl, rfl⟩ := H
    go_enter Try.func73, Try.ntmps73
    go_wp2_with (first | ((with_reducible refine gate_dst (N := 2) rfl ?_); refine boxE_ (cs := #[.int .u64 0, .int .u64 0, .int .u64 0, .int .u64 0]) (t := 29) ?_; intro gb173 hg w3 hbox hb; have BK173 := Aside0.mk (hbox); have GW173 := sizeB_ hg; have GE173 := sizeB_ hg; replace HB := stepB_ hb; clear hb hbox hg; obtain ⟨hcz4_0, hcz4_1, hcz4_2, hcz4_3, hfz4_0, hfz4_1, hfz4_2, hfz4_3⟩ := cz4_ BK173.out))
    refine bodyPost_ret (results_cell_row rfl _ _ gb173 29 #[.int .u64 0, .int .u64 0, .int .u64 0, .int .u64 0] (0, 0) _ rfl (blkF_ BK173.out) Try.underlying29 rfl (by kernel_rfl)) rfl ?_
    exact ⟨rfl_, bel_⟩
  · rw [if_neg c2] at H
    have c2b0 : decide (8 < (l0.length : Int)) = false := decide_eq_false c2
    have c2b1 : decide (8 < l0.length) = false := decide_eq_false (by omega)
    clear c2
    by_cases c5 : (l0.length : Int) = 0
    · rw [if_pos c5] at H
      have c5b0 : ((l0.length : Int) == 0) = true := beq_iff_eq.mpr c5
      have c5b1 : ((l0.length : Int) != 0) = false := bne_eq_false_iff_eq.mpr c5
      clear c5
      obtain ⟨⟨t174, t175, t176, t177⟩, A6, H⟩ := bnd_ H
      dsimp only at H
      simp only [Option.some.injEq, Prod.mk.injEq] at H
      obtain ⟨rfl, rfl, rfl, rfl⟩ := H
      go_enter Try.func73, Try.ntmps73
      go_wp2_with (first | ((with_reducible refine gate_dst (N := 2) rfl ?_); refine boxE_ (cs := #[.int .u64 0, .int .u64 0, .int .u64 0, .int .u64 0]) (t := 29) ?_; intro gb173 hg w7 hbox hb; have BK173 := Aside0.mk (hbox); have GW173 := sizeB_ hg; have GE173 := sizeB_ hg; replace HB := stepB_ hb; clear hb hbox hg) | ((with_reducible refine gate_callee (f := 72) rfl ?_); refine goL_ (some 12) Try.func72 #[.string (⟨#[]⟩ : ByteArray)] ?_; (with_reducible refine (spec_HashOf.calls k (⟨#[]⟩ : ByteArray) t174 t175 t176 t177 _ A6.out).mono ?_); rintro e w8 ⟨rfl, hb⟩; refine ⟨_, rfl, ?_⟩; replace BK173 := blkBel_ BK173.out hb; replace HB := stepB_ hb; (try clear hb); obtain ⟨hcz9_0, hcz9_1, hcz9_2, hcz9_3, hfz9_0, hfz9_1, hfz9_2, hfz9_3⟩ := cz4_ BK173.out))
      refine bodyPost_ret (results_cell_row rfl _ _ gb173 29 #[.int .u64 t174, .int .u64 t175, .int .u64 t176, .int .u64 t177] (0, 0) _ rfl (blkF_ BK173.out) Try.underlying29 rfl (by kernel_rfl)) rfl ?_
      exact ⟨rfl_, bel_⟩
    · rw [if_neg c5] at H
      have c5b0 : ((l0.length : Int) == 0) = false := beq_eq_false_iff_ne.mpr c5
      have c5b1 : ((l0.length : Int) != 0) = true := bne_iff_ne.mpr c5
      have c5b2 : ¬ (l0 = []) := fun h_ => c5 (by rw [h_]; rfl)
      obtain ⟨ji10, hji10⟩ : ∃ j_ : Int, (wrap64 ((l0.length : Int) - 1)) = j_ := ⟨_, rfl⟩
      replace H : (if 0 ≤ (ji10) then (if (ji10) < (l0.length : Int) then (spec_PeaksRoot.l0 k l0 (wrap64 ((l0.length : Int) - 2)) ((rd_T29 l0 (ji10)).f0) ((rd_T29 l0 (ji10)).f1) ((rd_T29 l0 (ji10)).f2) ((rd_T29 l0 (ji10)).f3)) else (none)) else (none)) = some (r1, r2, r3, r4) := by first | (rw [hji10] at H; exact H) | (simp only [hji10] at H ⊢; exact H)
      have hji10w : (IntKind.i64.wrap ((l0.length : Int) - 1)) = ji10 := (i64_w _).trans hji10
      by_cases c11 : 0 ≤ (ji10)
      · rw [if_pos c11] at H
        have c11b0 : decide (0 ≤ (ji10)) = true := decide_eq_true c11
        clear c11
        by_cases c12 : (ji10) < (l0.length : Int)
        · rw [if_pos c12] at H
          have c12b0 : decide ((ji10) < (l0.length : Int)) = true := decide_eq_true c12
          clear c12
          have H' := Aside0.mk H
          clear H
          go_enter Try.func73, Try.ntmps73
          go_wp2_with (first | ((with_reducible refine gate_dst (N := 2) rfl ?_); refine boxE_ (cs := #[.int .u64 0, .int .u64 0, .int .u64 0, .int .u64 0]) (t := 29) ?_; intro gb173 hg w13 hbox hb; have BK173 := Aside0.mk (hbox); have GW173 := sizeB_ hg; have GE173 := sizeB_ hg; replace HB := stepB_ hb; clear hb hbox hg; have p178 : 0 ≤ ((ji10) : Int) := ofd_; have q178 : (ji10) < (l0.length : Int) := ofd_; obtain ⟨ad178, e178, hx178_0, hx178_1, hx178_2, hx178_3⟩ := at_T29 HR0.out (ji10) p178 q178; cases e178; replace hx178_0 := pw_cell_below HB.out hx178_0; replace hx178_1 := pw_cell_below HB.out hx178_1; replace hx178_2 := pw_cell_below HB.out hx178_2; replace hx178_3 := pw_cell_below HB.out hx178_3; replace p178 := eq_true p178; replace q178 := eq_true q178) | ((with_reducible refine gate_dst (N := 3) rfl ?_); refine boxE_ (cs := #[.int .u64 0, .int .u64 0, .int .u64 0, .int .u64 0]) (t := 29) ?_; intro gb179 hg w14 hbox hb; have BK179 := Aside0.mk (hbox); have GW179 := sizeB_ hg; have GE179 := sizeB_ hg; replace HB := stepB_ hb; have NB173_179 := neL_ BK173.out hg; have NB179_173 := neG_ BK173.out hg; replace BK173 := blkBel_ BK173.out hb; clear hb hbox hg; have hnb15 := NB179_173.out; have hnc15 := NB173_179.out; obtain ⟨hcz16_0, hcz16_1, hcz16_2, hcz16_3, hfz16_0, hfz16_1, hfz16_2, hfz16_3⟩ := cz4_ BK179.out))
          go_loopg [4] k (fun kq v4 w' => ∃ (x4_1 : Int) (x180000_1 : Int) (x180001_1 : Int) (x180002_1 : Int) (x180003_1 : Int), v4 = .int .i64 x4_1 ∧ Aside0 (spec_PeaksRoot.l0 kq l0 x4_1 x180000_1 x180001_1 x180002_1 x180003_1 = some (r1, r2, r3, r4)) ∧ Aside0 (kq ≤ k) ∧ Aside0 (w'.heap[gb173]? = some (.cells #[.int .u64 0, .int .u64 0, .int .u64 0, .int .u64 0] 29 (0, 0))) ∧ Aside0 (w'.heap[gb179]? = some (.cells #[.int .u64 x180000_1, .int .u64 x180001_1, .int .u64 x180002_1, .int .u64 x180003_1] 29 (0, 0))) ∧ Aside0 (Below w.heap.size w w'))
          case atStart => exact ⟨(wrap64 ((l0.length : Int) - 2)), ((rd_T29 l0 (ji10)).f0), ((rd_T29 l0 (ji10)).f1), ((rd_T29 l0 (ji10)).f2), ((rd_T29 l0 (ji10)).f3), (by first | rfl | (simp; done) | (simp [*]; done)), H', ⟨Nat.le_refl _⟩, ⟨blkU_ BK173.out⟩, ⟨blkF_ BK179.out⟩, ⟨bel_⟩⟩
          case round =>
            clear H'
            (try clear c2); (try clear c2b0); (try clear c2b1); (try clear c5); (try clear c5b0); (try clear c5b1); (try clear c5b2); (try clear c11); (try clear c11b0); (try clear c12); (try clear c12b0); (try clear hcz16_0); (try clear hcz16_1); (try clear hcz16_2); (try clear hcz16_3); (try clear hcz4_0); (try clear hcz4_1); (try clear hcz4_2); (try clear hcz4_3); (try clear hcz9_0); (try clear hcz9_1); (try clear hcz9_2); (try clear hcz9_3); (try clear hfz16_0); (try clear hfz16_1); (try clear hfz16_2); (try clear hfz16_3); (try clear hfz4_0); (try clear hfz4_1); (try clear hfz4_2); (try clear hfz4_3); (try clear hfz9_0); (try clear hfz9_1); (try clear hfz9_2); (try clear hfz9_3); (try clear hx178_0); (try clear hx178_1); (try clear hx178_2); (try clear hx178_3); (try clear p178); (try clear q178)
            obtain ⟨x4_1, x180000_1, x180001_1, x180002_1, x180003_1, rfl, HA, HK1, BK173, BK179, HB⟩ := hrel
            cases gk with
            | zero => exact absurd HA.out (by simp [spec_PeaksRoot.l0])
            | succ k1 =>
              have H := HA.out
              clear HA
              simp only [spec_PeaksRoot.l0] at H
              by_cases c17 : x4_1 ≥ 0
              · rw [if_pos c17] at H
                have c17b0 : decide (0 ≤ x4_1) = true := decide_eq_true c17
                clear c17
                by_cases c18 : 0 ≤ x4_1
                · rw [if_pos c18] at H
                  have c18b0 : decide (0 ≤ x4_1) = true := decide_eq_true c18
                  clear c18
                  by_cases c19 : x4_1 < (l0.length : Int)
                  · rw [if_pos c19] at H
                    have c19b0 : decide (x4_1 < (l0.length : Int)) = true := decide_eq_true c19
                    clear c19
                    obtain ⟨⟨t181, t182, t183, t184⟩, A20, H⟩ := bnd_ H
                    dsimp only at H
                    have H' := Aside0.mk H
                    clear H
                    try go_wp2
                    replace BK173 := Aside0.mk (blk_drew BK173.out)
                    replace BK179 := Aside0.mk (blk_drew BK179.out)
                    replace HB := Aside0.mk (below_drew1 HB.out)
                    have p180 : 0 ≤ (x4_1 : Int) := ofd_
                    have q180 : x4_1 < (l0.length : Int) := ofd_
                    obtain ⟨ad180, e180, hx180_0, hx180_1, hx180_2, hx180_3⟩ := at_T29 HR0.out x4_1 p180 q180
                    have hw180_3 := hx180_3
                    have hw180_2 := hx180_2
                    have hw180_1 := hx180_1
                    have hw180_0 := hx180_0
                    obtain rfl : ad178 = ad180 := (by injection e180)
                    replace hx180_0 := pw_cell_below HB.out hx180_0
                    replace hx180_1 := pw_cell_below HB.out hx180_1
                    replace hx180_2 := pw_cell_below HB.out hx180_2
                    replace hx180_3 := pw_cell_below HB.out hx180_3
                    replace p180 := eq_true p180
                    replace q180 := eq_true q180
                    refine start_ (n := 7) (S := fun w' => w'.cell? ⟨gb179, 0, none⟩ = some (.int .u64 x180000_1) ∧ w'.cell? ⟨gb179, 1, none⟩ = some (.int .u64 x180001_1) ∧ w'.cell? ⟨gb179, 2, none⟩ = some (.int .u64 x180002_1) ∧ w'.cell? ⟨gb179, 3, none⟩ = some (.int .u64 x180003_1) ∧ w'.cell? (ad178.add ((x4_1).toNat * 4)) = some (.int .u64 ((rd_T29 l0 x4_1).f0)) ∧ w'.cell? ⟨(ad178.add ((x4_1).toNat * 4)).block, (ad178.add ((x4_1).toNat * 4)).off + 1, none⟩ = some (.int .u64 ((rd_T29 l0 x4_1).f1)) ∧ w'.cell? ⟨(ad178.add ((x4_1).toNat * 4)).block, (ad178.add ((x4_1).toNat * 4)).off + 2, none⟩ = some (.int .u64 ((rd_T29 l0 x4_1).f2)) ∧ w'.cell? ⟨(ad178.add ((x4_1).toNat * 4)).block, (ad178.add ((x4_1).toNat * 4)).off + 3, none⟩ = some (.int .u64 ((rd_T29 l0 x4_1).f3))) (ds := [6]) #[false, false, false, false, false, false, false] (by kernel_rfl) rfl rfl ⟨(blk_cell BK179.out 0).trans rfl, (blk_cell BK179.out 1).trans rfl, (blk_cell BK179.out 2).trans rfl, (blk_cell BK179.out 3).trans rfl, (pw_cell_below HB.out hw180_0), (pw_cell_below HB.out hw180_1), (pw_cell_below HB.out hw180_2), (pw_cell_below HB.out hw180_3)⟩ (fun hHeld => ?_)
                    generalize wr.drew = w21 at BK173 BK179 HB hx180_0 hx180_1 hx180_2 hx180_3 hHeld ⊢
                    refine pure_ (i := 0) (N := some 26) (v := ?_) (a' := ?_) #[true, false, false, false, false, false, false] rfl rfl (by kernel_rfl) (fun _ _ _ h => h) (Or.inl ⟨by rfl, ?_⟩) ?_ ?_
                    rotate_left
                    · intro w'
                      go_simp
                      with_reducible rfl
                    rotate_left
                    · simp only [Act.put, List.setIfInBounds_toArray, List.set_cons_zero, List.set_cons_succ, i64_w, i32_w]
                      rfl
                    refine pure_ (i := 1) (N := some 27) (v := ?_) (a' := ?_) #[true, true, false, false, false, false, false] rfl rfl (by kernel_rfl) (fun _ _ _ h => h) (Or.inl ⟨by rfl, ?_⟩) ?_ ?_
                    rotate_left
                    · intro w'
                      go_simp
                      with_reducible rfl
                    rotate_left
                    · simp only [Act.put, List.setIfInBounds_toArray, List.set_cons_zero, List.set_cons_succ, i64_w, i32_w]
                      rfl
                    refine pure_ (i := 2) (N := some 28) (v := ?_) (a' := ?_) #[true, true, true, false, false, false, false] rfl rfl (by kernel_rfl) (fun _ _ _ h => h) (Or.inl ⟨by rfl, ?_⟩) ?_ ?_
                    rotate_left
                    · intro w'
                      go_simp
                      with_reducible rfl
                    rotate_left
                    · simp only [Act.put, List.setIfInBounds_toArray, List.set_cons_zero, List.set_cons_succ, i64_w, i32_w]
                      rfl
                    refine take_ (i := 3) (N := some 29) (v := ?_) (a' := ?_) #[true, true, true, true, false, false, false] rfl rfl (by kernel_rfl) (fun _ _ _ h => h) (Or.inl ⟨by rfl, ?_⟩) hHeld ?_ ?_
                    rotate_left
                    · rintro w' ⟨s0, s1, s2, s3, s4, s5, s6, s7⟩
                      go_simp
                      with_reducible rfl
                    rotate_left
                    · simp only [Act.put, List.setIfInBounds_toArray, List.set_cons_zero, List.set_cons_succ, i64_w, i32_w]
                      rfl
                    refine take_ (i := 4) (N := some 30) (v := ?_) (a' := ?_) #[true, true, true, true, true, false, false] rfl rfl (by kernel_rfl) (fun _ _ _ h => h) (Or.inl ⟨by rfl, ?_⟩) hHeld ?_ ?_
                    rotate_left
                    · rintro w' ⟨s0, s1, s2, s3, s4, s5, s6, s7⟩
                      go_simp
                      with_reducible rfl
                    rotate_left
                    · simp only [Act.put, List.setIfInBounds_toArray, List.set_cons_zero, List.set_cons_succ, i64_w, i32_w]
                      rfl
                    refine one_ (i := 5) (N := some 31) #[true, true, true, true, true, true, false] rfl rfl (by kernel_rfl) (by decide) (fun K hK => ?_)
                    refine goN_ Try.func119 #[.agg #[.int .u64 ((rd_T29 l0 x4_1).f0), .int .u64 ((rd_T29 l0 x4_1).f1), .int .u64 ((rd_T29 l0 x4_1).f2), .int .u64 ((rd_T29 l0 x4_1).f3)], .agg #[.int .u64 x180000_1, .int .u64 x180001_1, .int .u64 x180002_1, .int .u64 x180003_1]] ?_
                    with_reducible refine (spec_HashPair.calls k1 ((rd_T29 l0 x4_1).f0) ((rd_T29 l0 x4_1).f1) ((rd_T29 l0 x4_1).f2) ((rd_T29 l0 x4_1).f3) x180000_1 x180001_1 x180002_1 x180003_1 t181 t182 t183 t184 _ A20.out).mono ?_
                    rintro e w22 ⟨rfl, hb⟩
                    refine ⟨_, rfl, ?_⟩
                    replace BK173 := blkBel_ BK173.out hb
                    replace BK179 := blkBel_ BK179.out hb
                    replace HB := stepB_ hb
                    (try clear hb)
                    refine hK.out _ _ ⟨(blk_cell BK179.out 0).trans rfl, (blk_cell BK179.out 1).trans rfl, (blk_cell BK179.out 2).trans rfl, (blk_cell BK179.out 3).trans rfl, (pw_cell_below HB.out hw180_0), (pw_cell_below HB.out hw180_1), (pw_cell_below HB.out hw180_2), (pw_cell_below HB.out hw180_3)⟩ (fun hHeld => ?_)
                    clear hK K
                    refine norm_ (a' := ?_) ?_ ?_
                    rotate_left
                    · show Act.put _ (some 31) _ = _
                      simp only [Act.put, List.setIfInBounds_toArray, List.set_cons_zero, List.set_cons_succ, i64_w, i32_w]
                      rfl
                    refine last_ (i := 6) (N := none) #[true, true, true, true, true, true, true] rfl rfl (by kernel_rfl) (by decide) (fun K hK => ?_)
                    have hs23 : w22.cell? ⟨gb179, 0, none⟩ = some (.int .u64 x180000_1) := (blk_cell BK179.out 0).trans rfl
                    have hfs23 := blk_frozen BK179.out 0
                    have hns23_0 := NB173_179.out
                    have hms23_0 := NB179_173.out
                    have hs24 : w22.cell? ⟨gb179, 1, none⟩ = some (.int .u64 x180001_1) := (blk_cell BK179.out 1).trans rfl
                    have hfs24 := blk_frozen BK179.out 1
                    have hns24_0 := NB173_179.out
                    have hms24_0 := NB179_173.out
                    have hs25 : w22.cell? ⟨gb179, 2, none⟩ = some (.int .u64 x180002_1) := (blk_cell BK179.out 2).trans rfl
                    have hfs25 := blk_frozen BK179.out 2
                    have hns25_0 := NB173_179.out
                    have hms25_0 := NB179_173.out
                    have hs26 : w22.cell? ⟨gb179, 3, none⟩ = some (.int .u64 x180003_1) := (blk_cell BK179.out 3).trans rfl
                    have hfs26 := blk_frozen BK179.out 3
                    have hns26_0 := NB173_179.out
                    have hms26_0 := NB179_173.out
                    refine skip_ (w1 := ?_) (by rfl) rfl ?_ ?_
                    rotate_left
                    · go_simp
                      rfl
                    refine hK.out _ _ ?_
                    clear hK K
                    refine done_ (by kernel_rfl) ?_
                    try go_wp2
                    go_roundg k1
                    case measure => have := HK1.out; omega
                    case rel => exact ⟨(wrap64 (x4_1 - 1)), (t181), (t182), (t183), (t184), (by first | rfl | (simp; done) | (simp [*]; done)), H', ⟨by have := HK1.out; omega⟩, ⟨blkU_ BK173.out⟩, ⟨blkF_ BK179.out⟩, ⟨bel_⟩⟩
                  · rw [if_neg c19] at H
                    exact absurd H (by simp)
                · rw [if_neg c18] at H
                  exact absurd H (by simp)
              · rw [if_neg c17] at H
                have c17b0 : decide (0 ≤ x4_1) = false := decide_eq_false c17
                clear c17
                simp only [Option.some.injEq, Prod.mk.injEq] at H
                obtain ⟨rfl, rfl, rfl, rfl⟩ := H
                have hnb27 := NB179_173.out
                have hnc27 := NB173_179.out
                obtain ⟨hcz28_0, hcz28_1, hcz28_2, hcz28_3, hfz28_0, hfz28_1, hfz28_2, hfz28_3⟩ := cz4_ BK179.out
                obtain ⟨hcz29_0, hcz29_1, hcz29_2, hcz29_3, hfz29_0, hfz29_1, hfz29_2, hfz29_3⟩ := cz4_ BK173.out
                go_wp2
                refine bodyPost_ret (results_cell_row rfl _ _ gb173 29 #[.int .u64 x180000_1, .int .u64 x180001_1, .int .u64 x180002_1, .int .u64 x180003_1] (0, 0) _ rfl (blkF_ BK173.out) Try.underlying29 rfl (by kernel_rfl)) rfl ?_
                exact ⟨by first | rfl | (simp [errW_none, errW_some] <;> rfl) | (simp only [← hji10]; first | rfl | (simp [errW_none, errW_some] <;> rfl)) | (simp [*, errW_none, errW_some] <;> rfl), bel_⟩
        · rw [if_neg c12] at H
          exact absurd H (by simp)
      · rw [if_neg c11] at H
        exact absurd H (by simp)
end
section
def impl_PeaksRoot.f : Nat → List (S29) → Option (Int × Int × Int × Int)
  | 0, _ => none
  | k + 1, l0 => if (l0.length : Int) = 0 then ((impl_HashOf.f k (⟨#[]⟩ : ByteArray)).bind fun bt401 => (some (bt401.1, bt401.2.1, bt401.2.2.1, bt401.2.2.2))) else (if (l0.length : Int) > 8 then (some (0, 0, 0, 0)) else (if (l0.length : Int) = 1 then (if 0 < (l0.length : Int) then (some ((rd_T29 l0 0).f0, (rd_T29 l0 0).f1, (rd_T29 l0 0).f2, (rd_T29 l0 0).f3)) else (none)) else (if 0 < (l0.length : Int) then (if 1 ≤ (l0.length : Int) then ((impl_PeaksRoot.f k (l0.drop 1)).bind fun bt411 => ((impl_HashPair.f k ((rd_T29 l0 0).f0) ((rd_T29 l0 0).f1) ((rd_T29 l0 0).f2) ((rd_T29 l0 0).f3) bt411.1 bt411.2.1 bt411.2.2.1 bt411.2.2.2).bind fun bt415 => (some (bt415.1, bt415.2.1, bt415.2.2.1, bt415.2.2.2)))) else (none)) else (none))))
def impl_PeaksRoot.T7 : Bool × List (List Nat × List Nat) := (true, [([], []), ([0], [0]), ([1], [1]), ([], []), ([3], [3]), ([4], [4]), ([2, 5, 5], [2, 5]), ([6, 6, 0, 1, 2, 3, 4, 5, 6], [6])])
def impl_PeaksRoot.B7 : List Nat := [0, 1, 3, 0, 8, 24, 63, 127]
theorem impl_PeaksRoot.tab7 : rtab .any (opsOf Try.f69 7) = impl_PeaksRoot.T7 := by kernel_rfl
theorem impl_PeaksRoot.bits7 : waitsOk impl_PeaksRoot.T7.2 impl_PeaksRoot.B7 = true := by kernel_rfl
set_option maxHeartbeats 8000000 in
set_option maxRecDepth 100000 in
theorem impl_PeaksRoot.calls (k : Nat) : ∀ (A0 : Option Addr) (c0 : Nat) (l0 : List (S29)) (r1 : Int) (r2 : Int) (r3 : Int) (r4 : Int) (w : World) (hr0 : Kd.C k29 w A0 l0.length l0) (hc0 : l0.length ≤ c0) (h : impl_PeaksRoot.f k l0 = some (r1, r2, r3, r4)),
    Calls Try.prog 69 #[.slice A0 l0.length c0] w fun e w' => e = .returned (.agg #[.int .u64 r1, .int .u64 r2, .int .u64 r3, .int .u64 r4]) ∧ Below w.heap.size w w' := by
  induction k using Nat.strongRecOn with
  | _ k ih =>
  intro A0 c0 l0 r1 r2 r3 r4 w hr0 hc0 h
  cases k with
  | zero => exact absurd h (by simp [impl_PeaksRoot.f])
  | succ k =>
  simp only [impl_PeaksRoot.f] at h
  have hu29 := Try.underlying29
  have HR0 := Aside0.mk hr0
  have HC0 := Aside0.mk hc0
  clear hr0 hc0
  have HB := Aside0.mk (Below.refl w.heap.size w)
  have H : (if (l0.length : Int) = 0 then ((impl_HashOf.f k (⟨#[]⟩ : ByteArray)).bind fun bt401 => (some (bt401.1, bt401.2.1, bt401.2.2.1, bt401.2.2.2))) else (if (l0.length : Int) > 8 then (some (0, 0, 0, 0)) else (if (l0.length : Int) = 1 then (if 0 < (l0.length : Int) then (some ((rd_T29 l0 0).f0, (rd_T29 l0 0).f1, (rd_T29 l0 0).f2, (rd_T29 l0 0).f3)) else (none)) else (if 0 < (l0.length : Int) then (if 1 ≤ (l0.length : Int) then ((impl_PeaksRoot.f k (l0.drop 1)).bind fun bt411 => ((impl_HashPair.f k ((rd_T29 l0 0).f0) ((rd_T29 l0 0).f1) ((rd_T29 l0 0).f2) ((rd_T29 l0 0).f3) bt411.1 bt411.2.1 bt411.2.2.1 bt411.2.2.2).bind fun bt415 => (some (bt415.1, bt415.2.1, bt415.2.2.1, bt415.2.2.2)))) else (none)) else (none))))) = some (r1, r2, r3, r4) := h
  clear h
  by_cases c2 : (l0.length : Int) = 0
  · rw [if_pos c2] at H
    have c2b0 : ((l0.length : Int) == 0) = true := beq_iff_eq.mpr c2
    have c2b1 : ((l0.length : Int) != 0) = false := bne_eq_false_iff_eq.mpr c2
    clear c2
    obtain ⟨⟨t401, t402, t403, t404⟩, A3, H⟩ := bnd_ H
    dsimp only at H
    simp only [Option.some.injEq, Prod.mk.injEq] at H
    obtain ⟨rfl, rfl, rfl, rfl⟩ := H
    go_enter Try.func69, Try.ntmps69
    go_wp2_with (first | ((with_reducible refine gate_dst (N := 2) rfl ?_); refine boxE_ (cs := #[.int .u64 0, .int .u64 0, .int .u64 0, .int .u64 0]) (t := 29) ?_; intro gb400 hg w4 hbox hb; have BK400 := Aside0.mk (hbox); have GW400 := sizeB_ hg; have GE400 := sizeB_ hg; replace HB := stepB_ hb; clear hb hbox hg) | ((with_reducible refine gate_callee (f := 68) rfl ?_); refine goL_ (some 7) Try.func68 #[.string (⟨#[]⟩ : ByteArray)] ?_; (with_reducible refine (impl_HashOf.calls k (⟨#[]⟩ : ByteArray) t401 t402 t403 t404 _ A3.out).mono ?_); rintro e w5 ⟨rfl, hb⟩; refine ⟨_, rfl, ?_⟩; replace BK400 := blkBel_ BK400.out hb; replace HB := stepB_ hb; (try clear hb); obtain ⟨hcz6_0, hcz6_1, hcz6_2, hcz6_3, hfz6_0, hfz6_1, hfz6_2, hfz6_3⟩ := cz4_ BK400.out))
    refine bodyPost_ret (results_cell_row rfl _ _ gb400 29 #[.int .u64 t401, .int .u64 t402, .int .u64 t403, .int .u64 t404] (0, 0) _ rfl (blkF_ BK400.out) Try.underlying29 rfl (by kernel_rfl)) rfl ?_
    exact ⟨rfl_, bel_⟩
  · rw [if_neg c2] at H
    have c2b0 : ((l0.length : Int) == 0) = false := beq_eq_false_iff_ne.mpr c2
    have c2b1 : ((l0.length : Int) != 0) = true := bne_iff_ne.mpr c2
    have c2b2 : ¬ (l0 = []) := fun h_ => c2 (by rw [h_]; rfl)
    by_cases c7 : (l0.length : Int) > 8
    · rw [if_pos c7] at H
      have c7b0 : decide (8 < (l0.length : Int)) = true := decide_eq_true c7
      have c7b1 : decide (8 < l0.length) = true := decide_eq_true (by omega)
      clear c7
      simp only [Option.some.injEq, Prod.mk.injEq] at H
      obtain ⟨rfl, rfl, rfl, rfl⟩ := H
      go_enter Try.func69, Try.ntmps69
      go_wp2_with (first | ((with_reducible refine gate_dst (N := 2) rfl ?_); refine boxE_ (cs := #[.int .u64 0, .int .u64 0, .int .u64 0, .int .u64 0]) (t := 29) ?_; intro gb400 hg w8 hbox hb; have BK400 := Aside0.mk (hbox); have GW400 := sizeB_ hg; have GE400 := sizeB_ hg; replace HB := stepB_ hb; clear hb hbox hg; obtain ⟨hcz9_0, hcz9_1, hcz9_2, hcz9_3, hfz9_0, hfz9_1, hfz9_2, hfz9_3⟩ := cz4_ BK400.out))
      refine bodyPost_ret (results_cell_row rfl _ _ gb400 29 #[.int .u64 0, .int .u64 0, .int .u64 0, .int .u64 0] (0, 0) _ rfl (blkF_ BK400.out) Try.underlying29 rfl (by kernel_rfl)) rfl ?_
      exact ⟨rfl_, bel_⟩
    · rw [if_neg c7] at H
      have c7b0 : decide (8 < (l0.length : Int)) = false := decide_eq_false c7
      have c7b1 : decide (8 < l0.length) = false := decide_eq_false (by omega)
      clear c7
      by_cases c10 : (l0.length : Int) = 1
      · rw [if_pos c10] at H
        have c10b0 : ((l0.length : Int) == 1) = true := beq_iff_eq.mpr c10
        have c10b1 : ((l0.length : Int) != 1) = false := bne_eq_false_iff_eq.mpr c10
        clear c10
        by_cases c11 : 0 < (l0.length : Int)
        · rw [if_pos c11] at H
          have c11b0 : decide (0 < (l0.length : Int)) = true := decide_eq_true c11
          have c11b1 : decide (0 < l0.length) = true := decide_eq_true (by omega)
          clear c11
          simp only [Option.some.injEq, Prod.mk.injEq] at H
          obtain ⟨rfl, rfl, rfl, rfl⟩ := H
          go_enter Try.func69, Try.ntmps69
          go_wp2_with (first | ((with_reducible refine gate_dst (N := 2) rfl ?_); refine boxE_ (cs := #[.int .u64 0, .int .u64 0, .int .u64 0, .int .u64 0]) (t := 29) ?_; intro gb400 hg w12 hbox hb; have BK400 := Aside0.mk (hbox); have GW400 := sizeB_ hg; have GE400 := sizeB_ hg; replace HB := stepB_ hb; clear hb hbox hg; have p405 : 0 ≤ (0 : Int) := (by omega); have q405 : 0 < (l0.length : Int) := ofd_; obtain ⟨ad405, e405, hx405_0, hx405_1, hx405_2, hx405_3⟩ := at_T29 HR0.out 0 p405 q405; cases e405; have qi405 : (0 < l0.length) = True := eq_true (by omega); (try rw [show ((0 : Int)).toNat = 0 from rfl] at hx405_0); (try rw [show 0 * 4 = 0 from rfl] at hx405_0); (try rw [Addr.add_zero'] at hx405_0); (try rw [show ((0 : Int)).toNat = 0 from rfl] at hx405_1); (try rw [show 0 * 4 = 0 from rfl] at hx405_1); (try rw [Addr.add_zero'] at hx405_1); (try rw [show ((0 : Int)).toNat = 0 from rfl] at hx405_2); (try rw [show 0 * 4 = 0 from rfl] at hx405_2); (try rw [Addr.add_zero'] at hx405_2); (try rw [show ((0 : Int)).toNat = 0 from rfl] at hx405_3); (try rw [show 0 * 4 = 0 from rfl] at hx405_3); (try rw [Addr.add_zero'] at hx405_3); replace hx405_0 := pw_cell_below HB.out hx405_0; replace hx405_1 := pw_cell_below HB.out hx405_1; replace hx405_2 := pw_cell_below HB.out hx405_2; replace hx405_3 := pw_cell_below HB.out hx405_3; replace p405 := eq_true p405; replace q405 := eq_true q405; obtain ⟨hcz13_0, hcz13_1, hcz13_2, hcz13_3, hfz13_0, hfz13_1, hfz13_2, hfz13_3⟩ := cz4_ BK400.out))
          refine bodyPost_ret (results_cell_row rfl _ _ gb400 29 #[.int .u64 ((rd_T29 l0 0).f0), .int .u64 ((rd_T29 l0 0).f1), .int .u64 ((rd_T29 l0 0).f2), .int .u64 ((rd_T29 l0 0).f3)] (0, 0) _ rfl (blkF_ BK400.out) Try.underlying29 rfl (by kernel_rfl)) rfl ?_
          exact ⟨rfl_, bel_⟩
        · rw [if_neg c11] at H
          exact absurd H (by simp)
      · rw [if_neg c10] at H
        have c10b0 : ((l0.length : Int) == 1) = false := beq_eq_false_iff_ne.mpr c10
        have c10b1 : ((l0.length : Int) != 1) = true := bne_iff_ne.mpr c10
        by_cases c14 : 0 < (l0.length : Int)
        · rw [if_pos c14] at H
          have c14b0 : decide (0 < (l0.length : Int)) = true := decide_eq_true c14
          have c14b1 : decide (0 < l0.length) = true := decide_eq_true (by omega)
          clear c14
          by_cases c15 : 1 ≤ (l0.length : Int)
          · rw [if_pos c15] at H
            have c15b0 := eq_true c15
            have c15b1 : decide (1 ≤ (l0.length : Int)) = true := decide_eq_true c15
            clear c15
            obtain ⟨y407, hy407⟩ : ∃ y_ : List (S29), y_ = (l0.drop 1) := ⟨_, rfl⟩
            replace H : ((impl_PeaksRoot.f k y407).bind fun bt411 => ((impl_HashPair.f k ((rd_T29 l0 0).f0) ((rd_T29 l0 0).f1) ((rd_T29 l0 0).f2) ((rd_T29 l0 0).f3) bt411.1 bt411.2.1 bt411.2.2.1 bt411.2.2.2).bind fun bt415 => (some (bt415.1, bt415.2.1, bt415.2.2.1, bt415.2.2.2)))) = some (r1, r2, r3, r4) := by first | (rw [hy407]; with_reducible exact H) | (have H2_ := (Option.bind_some _ _).symm.trans H; rw [hy407]; with_reducible exact H2_) | (have H2_ := (Option.bind_some _ _).symm.trans H; with_reducible exact H2_) | with_reducible exact H | (rw [hy407]; exact H) | exact H
            have Ny407 := Aside0.mk hy407
            clear hy407
            obtain ⟨⟨t411, t412, t413, t414⟩, A16, H⟩ := bnd_ H
            dsimp only at H
            obtain ⟨⟨t415, t416, t417, t418⟩, A17, H⟩ := bnd_ H
            dsimp only at H
            simp only [Option.some.injEq, Prod.mk.injEq] at H
            obtain ⟨rfl, rfl, rfl, rfl⟩ := H
            go_enter Try.func69, Try.ntmps69
            try go_wp2_with (first | ((with_reducible refine gate_dst (N := 2) rfl ?_); refine boxE_ (cs := #[.int .u64 0, .int .u64 0, .int .u64 0, .int .u64 0]) (t := 29) ?_; intro gb400 hg w18 hbox hb; have BK400 := Aside0.mk (hbox); have GW400 := sizeB_ hg; have GE400 := sizeB_ hg; replace HB := stepB_ hb; clear hb hbox hg))
            replace BK400 := Aside0.mk (blk_drew BK400.out)
            replace HB := Aside0.mk (below_drew1 HB.out)
            have p406 : 0 ≤ (0 : Int) := (by omega)
            have q406 : 0 < (l0.length : Int) := ofd_
            obtain ⟨ad406, e406, hx406_0, hx406_1, hx406_2, hx406_3⟩ := at_T29 HR0.out 0 p406 q406
            have hw406_3 := hx406_3
            (try rw [show ((0 : Int)).toNat = 0 from rfl] at hw406_3)
            (try rw [show 0 * 4 = 0 from rfl] at hw406_3)
            (try rw [Addr.add_zero'] at hw406_3)
            have hw406_2 := hx406_2
            (try rw [show ((0 : Int)).toNat = 0 from rfl] at hw406_2)
            (try rw [show 0 * 4 = 0 from rfl] at hw406_2)
            (try rw [Addr.add_zero'] at hw406_2)
            have hw406_1 := hx406_1
            (try rw [show ((0 : Int)).toNat = 0 from rfl] at hw406_1)
            (try rw [show 0 * 4 = 0 from rfl] at hw406_1)
            (try rw [Addr.add_zero'] at hw406_1)
            have hw406_0 := hx406_0
            (try rw [show ((0 : Int)).toNat = 0 from rfl] at hw406_0)
            (try rw [show 0 * 4 = 0 from rfl] at hw406_0)
            (try rw [Addr.add_zero'] at hw406_0)
            cases e406
            have qi406 : (0 < l0.length) = True := eq_true (by omega)
            (try rw [show ((0 : Int)).toNat = 0 from rfl] at hx406_0)
            (try rw [show 0 * 4 = 0 from rfl] at hx406_0)
            (try rw [Addr.add_zero'] at hx406_0)
            (try rw [show ((0 : Int)).toNat = 0 from rfl] at hx406_1)
            (try rw [show 0 * 4 = 0 from rfl] at hx406_1)
            (try rw [Addr.add_zero'] at hx406_1)
            (try rw [show ((0 : Int)).toNat = 0 from rfl] at hx406_2)
            (try rw [show 0 * 4 = 0 from rfl] at hx406_2)
            (try rw [Addr.add_zero'] at hx406_2)
            (try rw [show ((0 : Int)).toNat = 0 from rfl] at hx406_3)
            (try rw [show 0 * 4 = 0 from rfl] at hx406_3)
            (try rw [Addr.add_zero'] at hx406_3)
            replace hx406_0 := pw_cell_below HB.out hx406_0
            replace hx406_1 := pw_cell_below HB.out hx406_1
            replace hx406_2 := pw_cell_below HB.out hx406_2
            replace hx406_3 := pw_cell_below HB.out hx406_3
            replace p406 := eq_true p406
            replace q406 := eq_true q406
            have q20 : (1 : Int) ≤ ((l0.length : Int) : Int) := ofd_
            obtain ⟨i020, hi020, _, hsz20, _⟩ := info_parts info29
            have hroom20 : l0.length ≤ c0 := HC0.out
            have hC20 : Kd.C k29 _ (some ad406) l0.length l0 := HR0.out
            have hcut20 := cut_from (P := Try.prog) 49 29 .i64 Try.underlying49 hi020 4 hsz20 (some ad406) l0.length c0 1 (by omega) q20
            have hr20 := Kd.C_drop (m := (1 : Int).toNat) (c := c0) hC20 (by omega) hroom20
            obtain ⟨A20, hA20⟩ : ∃ A1, A1 = (if c0 = (1 : Int).toNat then (some ad406) else ((some ad406) : Option Addr).map (·.add ((1 : Int).toNat * 4))) := ⟨_, rfl⟩
            obtain ⟨c20, hc20⟩ : ∃ c1, c1 = c0 - (1 : Int).toNat := ⟨_, rfl⟩
            have hy20 : y407.length = l0.length - (1 : Int).toNat := (by rw [Ny407.out, List.length_drop] <;> omega)
            rw [show (l0).drop (1 : Int).toNat = y407 from Ny407.out.symm] at hr20
            replace hr20 : Kd.C k29 _ A20 y407.length y407 := (by rw [hA20]; exact hr20)
            rw [← hy20, ← hA20, ← hc20] at hcut20
            have HR410 := Aside0.mk hr20
            have HC410 := Aside0.mk (show y407.length ≤ c20 from by rw [hy20, hc20]; exact Nat.sub_le_sub_right hroom20 _)
            clear hr20 hC20 hroom20 hi020 hsz20 hc20
            have KY20 := Aside0.mk hy20
            have KA20 := Aside0.mk hA20
            clear hy20 hA20
            replace q20 := eq_true q20
            refine start_ (n := 8) (S := fun w' => w'.cell? ad406 = some (.int .u64 ((rd_T29 l0 0).f0)) ∧ w'.cell? ⟨ad406.block, ad406.off + 1, none⟩ = some (.int .u64 ((rd_T29 l0 0).f1)) ∧ w'.cell? ⟨ad406.block, ad406.off + 2, none⟩ = some (.int .u64 ((rd_T29 l0 0).f2)) ∧ w'.cell? ⟨ad406.block, ad406.off + 3, none⟩ = some (.int .u64 ((rd_T29 l0 0).f3))) (ds := []) #[false, false, false, false, false, false, false, false] (by kernel_rfl) rfl rfl ⟨(pw_cell_below HB.out hw406_0), (pw_cell_below HB.out hw406_1), (pw_cell_below HB.out hw406_2), (pw_cell_below HB.out hw406_3)⟩ (fun hHeld => ?_); refine with_tabW impl_PeaksRoot.tab7 impl_PeaksRoot.bits7 (fun HT_ HW_ => ?_)
            generalize w18.drew = w19 at BK400 HB HR410 hx406_0 hx406_1 hx406_2 hx406_3 hHeld ⊢
            refine pureP_ 0 (some 20) #[true, false, false, false, false, false, false, false] HT_ ?_
            refine pureP_ 1 (some 21) #[true, true, false, false, false, false, false, false] HT_ ?_
            refine pureP_ 3 (some 23) #[true, true, false, true, false, false, false, false] HT_ ?_
            refine pureP_ 4 (some 24) #[true, true, false, true, true, false, false, false] HT_ ?_
            refine takeP_ 2 (some 22) #[true, true, true, true, true, false, false, false] HT_ HW_ hHeld ?_
            refine oneP_ 5 (some 25) #[true, true, true, true, true, true, false, false] HT_ (fun K hK => ?_)
            refine goN_ Try.func69 #[.slice A20 y407.length c20] ?_
            with_reducible refine (ih k (by omega) _ _ y407 t411 t412 t413 t414 _ ?side1 ?side2 A16.out).mono ?_
            (case side1 => repeat (first | exact (Kd.C_below HR410.out HB.out) | (with_reducible refine Kd.C_alloc ?_ _) | (with_reducible refine Kd.C_drewN ?_ _) | (with_reducible refine Kd.C_drew ?_)))
            (case side2 => exact HC410.out)
            rintro e w21 ⟨rfl, hb⟩
            refine ⟨_, rfl, ?_⟩
            replace BK400 := blkBel_ BK400.out hb
            replace HB := stepB_ hb
            (try clear hb)
            refine hK.out _ _ ⟨(pw_cell_below HB.out hw406_0), (pw_cell_below HB.out hw406_1), (pw_cell_below HB.out hw406_2), (pw_cell_below HB.out hw406_3)⟩ (fun hHeld => ?_)
            clear hK K
            refine norm_ (a' := ?_) ?_ ?_
            rotate_left
            · show Act.put _ (some 25) _ = _
              simp only [Act.put, List.setIfInBounds_toArray, List.set_cons_zero, List.set_cons_succ, i64_w, i32_w]
              rfl
            refine oneP_ 6 (some 26) #[true, true, true, true, true, true, true, false] HT_ (fun K hK => ?_)
            refine goN_ Try.func110 #[.agg #[.int .u64 ((rd_T29 l0 0).f0), .int .u64 ((rd_T29 l0 0).f1), .int .u64 ((rd_T29 l0 0).f2), .int .u64 ((rd_T29 l0 0).f3)], .agg #[.int .u64 t411, .int .u64 t412, .int .u64 t413, .int .u64 t414]] ?_
            with_reducible refine (impl_HashPair.calls k ((rd_T29 l0 0).f0) ((rd_T29 l0 0).f1) ((rd_T29 l0 0).f2) ((rd_T29 l0 0).f3) t411 t412 t413 t414 t415 t416 t417 t418 _ A17.out).mono ?_
            rintro e w22 ⟨rfl, hb⟩
            refine ⟨_, rfl, ?_⟩
            replace BK400 := blkBel_ BK400.out hb
            replace HB := stepB_ hb
            (try clear hb)
            refine hK.out _ _ ⟨(pw_cell_below HB.out hw406_0), (pw_cell_below HB.out hw406_1), (pw_cell_below HB.out hw406_2), (pw_cell_below HB.out hw406_3)⟩ (fun hHeld => ?_)
            clear hK K
            refine norm_ (a' := ?_) ?_ ?_
            rotate_left
            · show Act.put _ (some 26) _ = _
              simp only [Act.put, List.setIfInBounds_toArray, List.set_cons_zero, List.set_cons_succ, i64_w, i32_w]
              rfl
            refine oneP_ 7 none #[true, true, true, true, true, true, true, true] HT_ (fun K hK => ?_)
            have hs23 : w22.cell? ⟨gb400, 0, none⟩ = some (.int .u64 0) := (blk_cell BK400.out 0).trans rfl
            have hfs23 := blk_frozen BK400.out 0
            have hs24 : w22.cell? ⟨gb400, 1, none⟩ = some (.int .u64 0) := (blk_cell BK400.out 1).trans rfl
            have hfs24 := blk_frozen BK400.out 1
            have hs25 : w22.cell? ⟨gb400, 2, none⟩ = some (.int .u64 0) := (blk_cell BK400.out 2).trans rfl
            have hfs25 := blk_frozen BK400.out 2
            have hs26 : w22.cell? ⟨gb400, 3, none⟩ = some (.int .u64 0) := (blk_cell BK400.out 3).trans rfl
            have hfs26 := blk_frozen BK400.out 3
            refine skip_ (w1 := ?_) (by rfl) rfl ?_ ?_
            rotate_left
            · go_simp
              rfl
            refine hK.out _ _ ⟨((cell_far (p := ⟨gb400, _, none⟩) (by first | exact Nat.ne_of_lt (Nat.lt_of_lt_of_le (by have := World.block_lt_of_cell? _ _ hw406_0; first | rwa [add_block] at this | exact this) GW400.out) | (rw [add_block]; exact Nat.ne_of_lt (Nat.lt_of_lt_of_le (by have := World.block_lt_of_cell? _ _ hw406_0; first | rwa [add_block] at this | exact this) GW400.out)) | (show (Addr.add _ _).block ≠ _; rw [add_block]; exact Nat.ne_of_lt (Nat.lt_of_lt_of_le (by have := World.block_lt_of_cell? _ _ hw406_0; first | rwa [add_block] at this | exact this) GW400.out)) | (dsimp only; exact Nat.ne_of_lt (Nat.lt_of_lt_of_le (by have := World.block_lt_of_cell? _ _ hw406_0; first | rwa [add_block] at this | exact this) GW400.out))) _).trans (((cell_far (p := ⟨gb400, _, none⟩) (by first | exact Nat.ne_of_lt (Nat.lt_of_lt_of_le (by have := World.block_lt_of_cell? _ _ hw406_0; first | rwa [add_block] at this | exact this) GW400.out) | (rw [add_block]; exact Nat.ne_of_lt (Nat.lt_of_lt_of_le (by have := World.block_lt_of_cell? _ _ hw406_0; first | rwa [add_block] at this | exact this) GW400.out)) | (show (Addr.add _ _).block ≠ _; rw [add_block]; exact Nat.ne_of_lt (Nat.lt_of_lt_of_le (by have := World.block_lt_of_cell? _ _ hw406_0; first | rwa [add_block] at this | exact this) GW400.out)) | (dsimp only; exact Nat.ne_of_lt (Nat.lt_of_lt_of_le (by have := World.block_lt_of_cell? _ _ hw406_0; first | rwa [add_block] at this | exact this) GW400.out))) _).trans (((cell_far (p := ⟨gb400, _, none⟩) (by first | exact Nat.ne_of_lt (Nat.lt_of_lt_of_le (by have := World.block_lt_of_cell? _ _ hw406_0; first | rwa [add_block] at this | exact this) GW400.out) | (rw [add_block]; exact Nat.ne_of_lt (Nat.lt_of_lt_of_le (by have := World.block_lt_of_cell? _ _ hw406_0; first | rwa [add_block] at this | exact this) GW400.out)) | (show (Addr.add _ _).block ≠ _; rw [add_block]; exact Nat.ne_of_lt (Nat.lt_of_lt_of_le (by have := World.block_lt_of_cell? _ _ hw406_0; first | rwa [add_block] at this | exact this) GW400.out)) | (dsimp only; exact Nat.ne_of_lt (Nat.lt_of_lt_of_le (by have := World.block_lt_of_cell? _ _ hw406_0; first | rwa [add_block] at this | exact this) GW400.out))) _).trans (((cell_far (p := ⟨gb400, _, none⟩) (by first | exact Nat.ne_of_lt (Nat.lt_of_lt_of_le (by have := World.block_lt_of_cell? _ _ hw406_0; first | rwa [add_block] at this | exact this) GW400.out) | (rw [add_block]; exact Nat.ne_of_lt (Nat.lt_of_lt_of_le (by have := World.block_lt_of_cell? _ _ hw406_0; first | rwa [add_block] at this | exact this) GW400.out)) | (show (Addr.add _ _).block ≠ _; rw [add_block]; exact Nat.ne_of_lt (Nat.lt_of_lt_of_le (by have := World.block_lt_of_cell? _ _ hw406_0; first | rwa [add_block] at this | exact this) GW400.out)) | (dsimp only; exact Nat.ne_of_lt (Nat.lt_of_lt_of_le (by have := World.block_lt_of_cell? _ _ hw406_0; first | rwa [add_block] at this | exact this) GW400.out))) _).trans (hHeld.1)))))))), ((cell_far (p := ⟨gb400, _, none⟩) (by first | exact Nat.ne_of_lt (Nat.lt_of_lt_of_le (by have := World.block_lt_of_cell? _ _ hw406_1; first | rwa [add_block] at this | exact this) GW400.out) | (rw [add_block]; exact Nat.ne_of_lt (Nat.lt_of_lt_of_le (by have := World.block_lt_of_cell? _ _ hw406_1; first | rwa [add_block] at this | exact this) GW400.out)) | (show (Addr.add _ _).block ≠ _; rw [add_block]; exact Nat.ne_of_lt (Nat.lt_of_lt_of_le (by have := World.block_lt_of_cell? _ _ hw406_1; first | rwa [add_block] at this | exact this) GW400.out)) | (dsimp only; exact Nat.ne_of_lt (Nat.lt_of_lt_of_le (by have := World.block_lt_of_cell? _ _ hw406_1; first | rwa [add_block] at this | exact this) GW400.out))) _).trans (((cell_far (p := ⟨gb400, _, none⟩) (by first | exact Nat.ne_of_lt (Nat.lt_of_lt_of_le (by have := World.block_lt_of_cell? _ _ hw406_1; first | rwa [add_block] at this | exact this) GW400.out) | (rw [add_block]; exact Nat.ne_of_lt (Nat.lt_of_lt_of_le (by have := World.block_lt_of_cell? _ _ hw406_1; first | rwa [add_block] at this | exact this) GW400.out)) | (show (Addr.add _ _).block ≠ _; rw [add_block]; exact Nat.ne_of_lt (Nat.lt_of_lt_of_le (by have := World.block_lt_of_cell? _ _ hw406_1; first | rwa [add_block] at this | exact this) GW400.out)) | (dsimp only; exact Nat.ne_of_lt (Nat.lt_of_lt_of_le (by have := World.block_lt_of_cell? _ _ hw406_1; first | rwa [add_block] at this | exact this) GW400.out))) _).trans (((cell_far (p := ⟨gb400, _, none⟩) (by first | exact Nat.ne_of_lt (Nat.lt_of_lt_of_le (by have := World.block_lt_of_cell? _ _ hw406_1; first | rwa [add_block] at this | exact this) GW400.out) | (rw [add_block]; exact Nat.ne_of_lt (Nat.lt_of_lt_of_le (by have := World.block_lt_of_cell? _ _ hw406_1; first | rwa [add_block] at this | exact this) GW400.out)) | (show (Addr.add _ _).block ≠ _; rw [add_block]; exact Nat.ne_of_lt (Nat.lt_of_lt_of_le (by have := World.block_lt_of_cell? _ _ hw406_1; first | rwa [add_block] at this | exact this) GW400.out)) | (dsimp only; exact Nat.ne_of_lt (Nat.lt_of_lt_of_le (by have := World.block_lt_of_cell? _ _ hw406_1; first | rwa [add_block] at this | exact this) GW400.out))) _).trans (((cell_far (p := ⟨gb400, _, none⟩) (by first | exact Nat.ne_of_lt (Nat.lt_of_lt_of_le (by have := World.block_lt_of_cell? _ _ hw406_1; first | rwa [add_block] at this | exact this) GW400.out) | (rw [add_block]; exact Nat.ne_of_lt (Nat.lt_of_lt_of_le (by have := World.block_lt_of_cell? _ _ hw406_1; first | rwa [add_block] at this | exact this) GW400.out)) | (show (Addr.add _ _).block ≠ _; rw [add_block]; exact Nat.ne_of_lt (Nat.lt_of_lt_of_le (by have := World.block_lt_of_cell? _ _ hw406_1; first | rwa [add_block] at this | exact this) GW400.out)) | (dsimp only; exact Nat.ne_of_lt (Nat.lt_of_lt_of_le (by have := World.block_lt_of_cell? _ _ hw406_1; first | rwa [add_block] at this | exact this) GW400.out))) _).trans (hHeld.2.1)))))))), ((cell_far (p := ⟨gb400, _, none⟩) (by first | exact Nat.ne_of_lt (Nat.lt_of_lt_of_le (by have := World.block_lt_of_cell? _ _ hw406_2; first | rwa [add_block] at this | exact this) GW400.out) | (rw [add_block]; exact Nat.ne_of_lt (Nat.lt_of_lt_of_le (by have := World.block_lt_of_cell? _ _ hw406_2; first | rwa [add_block] at this | exact this) GW400.out)) | (show (Addr.add _ _).block ≠ _; rw [add_block]; exact Nat.ne_of_lt (Nat.lt_of_lt_of_le (by have := World.block_lt_of_cell? _ _ hw406_2; first | rwa [add_block] at this | exact this) GW400.out)) | (dsimp only; exact Nat.ne_of_lt (Nat.lt_of_lt_of_le (by have := World.block_lt_of_cell? _ _ hw406_2; first | rwa [add_block] at this | exact this) GW400.out))) _).trans (((cell_far (p := ⟨gb400, _, none⟩) (by first | exact Nat.ne_of_lt (Nat.lt_of_lt_of_le (by have := World.block_lt_of_cell? _ _ hw406_2; first | rwa [add_block] at this | exact this) GW400.out) | (rw [add_block]; exact Nat.ne_of_lt (Nat.lt_of_lt_of_le (by have := World.block_lt_of_cell? _ _ hw406_2; first | rwa [add_block] at this | exact this) GW400.out)) | (show (Addr.add _ _).block ≠ _; rw [add_block]; exact Nat.ne_of_lt (Nat.lt_of_lt_of_le (by have := World.block_lt_of_cell? _ _ hw406_2; first | rwa [add_block] at this | exact this) GW400.out)) | (dsimp only; exact Nat.ne_of_lt (Nat.lt_of_lt_of_le (by have := World.block_lt_of_cell? _ _ hw406_2; first | rwa [add_block] at this | exact this) GW400.out))) _).trans (((cell_far (p := ⟨gb400, _, none⟩) (by first | exact Nat.ne_of_lt (Nat.lt_of_lt_of_le (by have := World.block_lt_of_cell? _ _ hw406_2; first | rwa [add_block] at this | exact this) GW400.out) | (rw [add_block]; exact Nat.ne_of_lt (Nat.lt_of_lt_of_le (by have := World.block_lt_of_cell? _ _ hw406_2; first | rwa [add_block] at this | exact this) GW400.out)) | (show (Addr.add _ _).block ≠ _; rw [add_block]; exact Nat.ne_of_lt (Nat.lt_of_lt_of_le (by have := World.block_lt_of_cell? _ _ hw406_2; first | rwa [add_block] at this | exact this) GW400.out)) | (dsimp only; exact Nat.ne_of_lt (Nat.lt_of_lt_of_le (by have := World.block_lt_of_cell? _ _ hw406_2; first | rwa [add_block] at this | exact this) GW400.out))) _).trans (((cell_far (p := ⟨gb400, _, none⟩) (by first | exact Nat.ne_of_lt (Nat.lt_of_lt_of_le (by have := World.block_lt_of_cell? _ _ hw406_2; first | rwa [add_block] at this | exact this) GW400.out) | (rw [add_block]; exact Nat.ne_of_lt (Nat.lt_of_lt_of_le (by have := World.block_lt_of_cell? _ _ hw406_2; first | rwa [add_block] at this | exact this) GW400.out)) | (show (Addr.add _ _).block ≠ _; rw [add_block]; exact Nat.ne_of_lt (Nat.lt_of_lt_of_le (by have := World.block_lt_of_cell? _ _ hw406_2; first | rwa [add_block] at this | exact this) GW400.out)) | (dsimp only; exact Nat.ne_of_lt (Nat.lt_of_lt_of_le (by have := World.block_lt_of_cell? _ _ hw406_2; first | rwa [add_block] at this | exact this) GW400.out))) _).trans (hHeld.2.2.1)))))))), ((cell_far (p := ⟨gb400, _, none⟩) (by first | exact Nat.ne_of_lt (Nat.lt_of_lt_of_le (by have := World.block_lt_of_cell? _ _ hw406_3; first | rwa [add_block] at this | exact this) GW400.out) | (rw [add_block]; exact Nat.ne_of_lt (Nat.lt_of_lt_of_le (by have := World.block_lt_of_cell? _ _ hw406_3; first | rwa [add_block] at this | exact this) GW400.out)) | (show (Addr.add _ _).block ≠ _; rw [add_block]; exact Nat.ne_of_lt (Nat.lt_of_lt_of_le (by have := World.block_lt_of_cell? _ _ hw406_3; first | rwa [add_block] at this | exact this) GW400.out)) | (dsimp only; exact Nat.ne_of_lt (Nat.lt_of_lt_of_le (by have := World.block_lt_of_cell? _ _ hw406_3; first | rwa [add_block] at this | exact this) GW400.out))) _).trans (((cell_far (p := ⟨gb400, _, none⟩) (by first | exact Nat.ne_of_lt (Nat.lt_of_lt_of_le (by have := World.block_lt_of_cell? _ _ hw406_3; first | rwa [add_block] at this | exact this) GW400.out) | (rw [add_block]; exact Nat.ne_of_lt (Nat.lt_of_lt_of_le (by have := World.block_lt_of_cell? _ _ hw406_3; first | rwa [add_block] at this | exact this) GW400.out)) | (show (Addr.add _ _).block ≠ _; rw [add_block]; exact Nat.ne_of_lt (Nat.lt_of_lt_of_le (by have := World.block_lt_of_cell? _ _ hw406_3; first | rwa [add_block] at this | exact this) GW400.out)) | (dsimp only; exact Nat.ne_of_lt (Nat.lt_of_lt_of_le (by have := World.block_lt_of_cell? _ _ hw406_3; first | rwa [add_block] at this | exact this) GW400.out))) _).trans (((cell_far (p := ⟨gb400, _, none⟩) (by first | exact Nat.ne_of_lt (Nat.lt_of_lt_of_le (by have := World.block_lt_of_cell? _ _ hw406_3; first | rwa [add_block] at this | exact this) GW400.out) | (rw [add_block]; exact Nat.ne_of_lt (Nat.lt_of_lt_of_le (by have := World.block_lt_of_cell? _ _ hw406_3; first | rwa [add_block] at this | exact this) GW400.out)) | (show (Addr.add _ _).block ≠ _; rw [add_block]; exact Nat.ne_of_lt (Nat.lt_of_lt_of_le (by have := World.block_lt_of_cell? _ _ hw406_3; first | rwa [add_block] at this | exact this) GW400.out)) | (dsimp only; exact Nat.ne_of_lt (Nat.lt_of_lt_of_le (by have := World.block_lt_of_cell? _ _ hw406_3; first | rwa [add_block] at this | exact this) GW400.out))) _).trans (((cell_far (p := ⟨gb400, _, none⟩) (by first | exact Nat.ne_of_lt (Nat.lt_of_lt_of_le (by have := World.block_lt_of_cell? _ _ hw406_3; first | rwa [add_block] at this | exact this) GW400.out) | (rw [add_block]; exact Nat.ne_of_lt (Nat.lt_of_lt_of_le (by have := World.block_lt_of_cell? _ _ hw406_3; first | rwa [add_block] at this | exact this) GW400.out)) | (show (Addr.add _ _).block ≠ _; rw [add_block]; exact Nat.ne_of_lt (Nat.lt_of_lt_of_le (by have := World.block_lt_of_cell? _ _ hw406_3; first | rwa [add_block] at this | exact this) GW400.out)) | (dsimp only; exact Nat.ne_of_lt (Nat.lt_of_lt_of_le (by have := World.block_lt_of_cell? _ _ hw406_3; first | rwa [add_block] at this | exact this) GW400.out))) _).trans (hHeld.2.2.2))))))))⟩ (fun hHeld => ?_)
            clear hK K
            refine done_ (done_of HT_.out (by kernel_rfl)) ?_
            try go_wp2
            refine bodyPost_ret (results_cell_row rfl _ _ gb400 29 #[.int .u64 t415, .int .u64 t416, .int .u64 t417, .int .u64 t418] (0, 0) _ rfl (blkF_ BK400.out) Try.underlying29 rfl (by kernel_rfl)) rfl ?_
            exact ⟨rfl_, bel_⟩
          · rw [if_neg c15] at H
            exact absurd H (by simp)
        · rw [if_neg c14] at H
          exact absurd H (by simp)
end
end Go.Proofs.Ytflckegggopdnaa.B
