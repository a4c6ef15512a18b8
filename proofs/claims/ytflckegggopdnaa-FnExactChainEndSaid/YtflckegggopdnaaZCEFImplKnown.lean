/- What the Go functions loop.example/belfry/impl.known do is what the Lean functions .f of their names here say; condition: .f gives an answer. (Written by the session's program pp.py over the kit's print; Lean checks it.) -/
import Derived.Test.YtflckegggopdnaaZCEK
import Derived.Test.YtflckegggopdnaaZCEM
import Derived.Test.YtflckegggopdnaaZCEGFall1
import Derived.Test.YtflckegggopdnaaZCEHLook
namespace Go.Proofs.Ytflckegggopdnaa.B
open Go.RowKit Go.Proofs.YtflckegggopdnaaW.PrintWords Go.Proofs.YtflckegggopdnaaW.PrintLast Go.Proofs.YtflckegggopdnaaW.PrintMore
attribute [local go_sem] max2_int min2_int max_two min_two max_three min_three max_four min_four
set_option linter.unusedVariables false
set_option linter.unusedSimpArgs false
section
def impl_known.l0 : Nat → List (S29) → MapD → List (S100) → Int → Int → Option (MapD)
  | 0, _, _, _, _, _ => none
  | k + 1, x2, x9, x21, x22, x23 => if x23 < x22 then (if 0 ≤ x23 then (if x23 < (x21.length : Int) then (if x23 < (x2.length : Int) then ((impl_putAt.f x9 ((rd_T100 x21 x23).f0) ((rd_T100 x21 x23).f1) ((rd_T29 x2 x23).f0) ((rd_T29 x2 x23).f1) ((rd_T29 x2 x23).f2) ((rd_T29 x2 x23).f3)).bind fun t458 => (impl_known.l0 k x2 t458 x21 x22 (wrap64 (x23 + 1)))) else (none)) else (none)) else (none)) else (some x9)
def impl_known.f (k : Nat) (a0 : Int) (a1 : Int) (l2 : List (S29)) : Option (MapD) := (impl_growthNodes.f k a0 a1).bind fun bt445 => ((impl_makeAt.f).bind fun t451 => (if bt445.1.length + bt445.2.length < 8796093022208 then ((some (bt445.1 ++ bt445.2 : List (S100))).bind fun y452 => (impl_known.l0 k l2 t451 y452 (y452.length : Int) 0)) else (none)))
set_option maxHeartbeats 8000000 in
set_option maxRecDepth 100000 in
theorem impl_known.calls (k : Nat) (a0 : Int) (a1 : Int) (A2 : Option Addr) (c2 : Nat) (l2 : List (S29)) (r : MapD) (w : World) (hr2 : Kd.C k29 w A2 l2.length l2) (hc2 : l2.length ≤ c2) (h : impl_known.f k a0 a1 l2 = some r) :
    Calls Try.prog 71 #[.int .i64 a0, .int .i64 a1, .slice A2 l2.length c2] w fun e w' => ∃ gm_ : Nat, e = .returned (.map (some gm_)) ∧ w.heap.size ≤ gm_ ∧ (∃ n_ : Nat, IsM w' gm_ n_ r) ∧ Below w.heap.size w w' := by
  have hu100 := Try.underlying100
  have hu29 := Try.underlying29
  have HR2 := Aside0.mk hr2
  have HC2 := Aside0.mk hc2
  clear hr2 hc2
  have HB := Aside0.mk (Below.refl w.heap.size w)
  have H : ((impl_growthNodes.f k a0 a1).bind fun bt445 => ((impl_makeAt.f).bind fun t451 => (if bt445.1.length + bt445.2.length < 8796093022208 then ((some (bt445.1 ++ bt445.2 : List (S100))).bind fun y452 => (impl_known.l0 k l2 t451 y452 (y452.length : Int) 0)) else (none)))) = some r := h
  clear h
  obtain ⟨⟨t445, t446⟩, A4, H⟩ := bnd_ H
  dsimp only at H
  obtain ⟨t451, A5, H⟩ := bnd_ H
  by_cases c6 : t445.length + t446.length < 8796093022208
  · rw [if_pos c6] at H
    have LMc6 := Aside0.mk c6
    clear c6
    obtain ⟨y452, hy452⟩ : ∃ y_ : List (S100), y_ = (t445 ++ t446) := ⟨_, rfl⟩
    replace H : (impl_known.l0 k l2 t451 y452 (y452.length : Int) 0) = some r := by first | (rw [hy452]; with_reducible exact H) | (have H2_ := (Option.bind_some _ _).symm.trans H; rw [hy452]; with_reducible exact H2_) | (have H2_ := (Option.bind_some _ _).symm.trans H; with_reducible exact H2_) | with_reducible exact H | (rw [hy452]; exact H) | exact H
    have Ny452 := Aside0.mk hy452
    clear hy452
    have H' := Aside0.mk H
    clear H
    go_enter Try.func71, Try.ntmps71
    go_wp2_with (first | ((with_reducible refine gate_callee (f := 63) rfl ?_); refine goL_ (some 15) Try.func63 #[.int .i64 a0, .int .i64 a1] ?_; (with_reducible refine (impl_growthNodes.calls k a0 a1 t445 t446 _ A4.out).mono ?_); rintro e w7 ⟨v447, v449, rfl, ho0, ho1, hb⟩; refine ⟨_, rfl, ?_⟩; have HO448 := Aside0.mk (Kd.R_lower ho0 (below_size bel_)); have HO450 := Aside0.mk (Kd.R_lower ho1 (below_size bel_)); replace HB := stepB_ hb; (try clear hb); (try clear hk); (try clear ho0); (try clear ho1)) | ((with_reducible refine gate_dst (N := 18) rfl ?_); refine goMake_ ?_; intro gm_ hgm_ w8 hm_ hb; have GM_ := sizeB_ hgm_; have HM := Aside0.mk hm_; clear hm_ hgm_; replace HO448 := Aside0.mk (Kd.R_below (kdU_ HO448.out) hb); have HN_ := Aside0.mk (R_map HO448.out HM.out).1; replace HO450 := Aside0.mk (Kd.R_below (kdU_ HO450.out) hb); replace HB := stepB_ hb; (try clear hb); (try clear hk); obtain ⟨Ao10, co10, eo10⟩ := Kd.R_slice HO450.out; subst eo10) | ((with_reducible refine gate_builtin (b := .append) (xs := #[.tmp 19, .tmp 20]) rfl ?_); at_builtin; refine Kd.R_append_rows k100 (w0 := w) w.heap.size rfl (.tmp 19) (.tmp 20) 96 100 (.agg #[(.int .i64 0), (.int .i64 0)]) 16 rfl Try.underlying96 info100 rfl (by decide) (by omega) v447 t445 t446 _ _ _ (fun k_ => some k_ ≠ (.slice Ao10 t446.length co10 : Value).ownBlock) (fun _ => False) rfl rfl ?aO ?aR (fun _ _ h => h) (fun _ h => h.elim) ?aF ?aB ?aS ?aL ?_; (case aR => repeat (first | exact (Kd.R_reads' HO450.out).2.2 | (with_reducible refine Kd.C_alloc ?_ _) | (with_reducible refine Kd.C_drewN ?_ _) | (with_reducible refine Kd.C_drew ?_))); (case aB => exact bel_); (case aF => exact (fun k_ hk => Kd.fresh' (Kd.R_lt (kdU_ HO450.out)) k_ hk)); (case aO => exact (kdU_ HO448.out)); (case aS => exact (below_size bel_)); (case aL => have := LMc6.out; omega); intro v453 w9 ho hb hg hat; replace HM := Aside0.mk (IsM.grown (isU_ HM.out) hg (fun e_ => (HN_.out gm_ e_.symm).2 rfl)); rw [← Ny452.out] at ho; replace HO450 := Aside0.mk (Kd.R_after (ok := (fun _ => True)) (by (with_reducible repeat (first | apply Kd.R_alloc | apply Kd.R_drewN | apply Kd.R_drew)); exact Kd.R_mono HO450.out (fun _ hk => ⟨trivial, hk⟩)) hg hat); replace HB := Aside0.mk (hb); have HO454 := Aside0.mk (ho); clear HO448; clear ho hb hg hat; obtain ⟨Ao11, co11, eo11⟩ := Kd.R_slice HO454.out; subst eo11))
    go_loopg [23] k (fun kq v23 w' => ∃ (x9_1 : MapD) (x23_1 : Int), v23 = .int .i64 x23_1 ∧ Aside0 (impl_known.l0 kq l2 x9_1 y452 (y452.length : Int) x23_1 = some r) ∧ Aside0 (kq ≤ k) ∧ Aside0 (Kd.R k100 100 w' w.heap.size (fun _ => True) (.slice Ao11 y452.length co11) y452) ∧ Aside0 (IsM w' gm_ (x23_1).toNat x9_1) ∧ Aside0 (Below w.heap.size w w'))
    case atStart => exact ⟨(t451), (0), (by first | rfl | (simp; done) | (simp [*]; done)), H', ⟨Nat.le_refl _⟩, ⟨by (with_reducible repeat (first | apply Kd.R_alloc | apply Kd.R_drewN | apply Kd.R_drew)); exact Kd.R_mono HO454.out (fun _ hk => trivial)⟩, ⟨by rw [show t451 = [] from (Option.some.inj A5.out).symm]; exact isU_ HM.out⟩, ⟨bel_⟩⟩
    case round =>
      clear H'
      (try clear c2); (try clear c6)
      obtain ⟨x9_1, x23_1, rfl, HA, HK1, HO_21, HM, HB⟩ := hrel
      cases gk with
      | zero => exact absurd HA.out (by simp [impl_known.l0])
      | succ k1 =>
        have H := HA.out
        clear HA
        simp only [impl_known.l0] at H
        by_cases c12 : x23_1 < (y452.length : Int)
        · rw [if_pos c12] at H
          have c12b0 : decide (x23_1 < (y452.length : Int)) = true := decide_eq_true c12
          clear c12
          by_cases c13 : 0 ≤ x23_1
          · rw [if_pos c13] at H
            have c13b0 : decide (0 ≤ x23_1) = true := decide_eq_true c13
            clear c13
            by_cases c14 : x23_1 < (y452.length : Int)
            · rw [if_pos c14] at H
              have c14b0 : decide (x23_1 < (y452.length : Int)) = true := decide_eq_true c14
              clear c14
              by_cases c15 : x23_1 < (l2.length : Int)
              · rw [if_pos c15] at H
                have c15b0 : decide (x23_1 < (l2.length : Int)) = true := decide_eq_true c15
                clear c15
                obtain ⟨t458, A16, H⟩ := bnd_ H
                have H' := Aside0.mk H
                clear H
                have p455 : 0 ≤ (x23_1 : Int) := ofd_
                have q455 : x23_1 < (y452.length : Int) := ofd_
                have HX_ := Aside0.mk (show (0 : Int) ≤ x23_1 ∧ x23_1 < (y452.length : Int) from ⟨p455, by assumption⟩)
                obtain ⟨ad455, e455, hx455_0, hx455_1⟩ := at_T100 (Kd.R_reads' HO_21.out).2.2 x23_1 p455 q455
                cases e455
                replace p455 := eq_true p455
                replace q455 := eq_true q455
                try go_wp2_with (first | ((with_reducible refine gate_dst (N := 11) rfl ?_); refine boxE_ (cs := #[.int .i64 0, .int .i64 0]) (t := 100) ?_; intro gb456 hg w17 hbox hb; replace HO_21 := Aside0.mk (Kd.R_below (Kd.R_elderB (kdU_ HO_21.out) gb456 (Nat.le_of_eq hg.symm)) hb); have BK456 := Aside0.mk (hbox); have GW456 := sizeB_ hg; have GE456 := sizeB_ hg; replace HM := Aside0.mk (IsM.below (isU_ HM.out) hb); replace HB := stepB_ hb; clear hb hbox hg; obtain ⟨hcz18_0, hcz18_1, hfz18_0, hfz18_1⟩ := cz2_ BK456.out))
                have n9_ : Aside0 (IsM ((w17.setCell ⟨gb456, 0, none⟩ (.int .i64 ((rd_T100 y452 x23_1).f0))).setCell ⟨gb456, 1, none⟩ (.int .i64 ((rd_T100 y452 x23_1).f1))) gm_ (x23_1).toNat x9_1) := ⟨IsM.set (IsM.set HM.out (IsM.ne HM.out BK456.out) _) (IsM.ne HM.out BK456.out) _⟩
                have n0_ : Aside0 (Kd.R k100 100 ((w17.setCell ⟨gb456, 0, none⟩ (.int .i64 ((rd_T100 y452 x23_1).f0))).setCell ⟨gb456, 1, none⟩ (.int .i64 ((rd_T100 y452 x23_1).f1))) w.heap.size (fun k_ => k_ ≠ gb456) (.slice (some ad455) y452.length co11) y452) := ⟨by (with_reducible repeat (first | apply Kd.R_alloc | apply Kd.R_drewN | apply Kd.R_drew)); exact Kd.R_mono (Kd.R_far (p := ⟨gb456, 1, none⟩) (Kd.R_far (p := ⟨gb456, 0, none⟩) (Kd.R_mono HO_21.out (fun k_ hk => (⟨hk, hk.2⟩ : _ ∧ k_ ≠ gb456))) (fun _ hk => hk.2) (.int .i64 ((rd_T100 y452 x23_1).f0))) (fun _ hk => hk.2) (.int .i64 ((rd_T100 y452 x23_1).f1))) (fun _ hk => hk.1.2)⟩
                have n1_ : Aside0 (((w17.setCell ⟨gb456, 0, none⟩ (.int .i64 ((rd_T100 y452 x23_1).f0))).setCell ⟨gb456, 1, none⟩ (.int .i64 ((rd_T100 y452 x23_1).f1))).heap[gb456]? = some (.cells #[.int .i64 ((rd_T100 y452 x23_1).f0), .int .i64 ((rd_T100 y452 x23_1).f1)] 100 (0, 0))) := ⟨blkF_ BK456.out⟩
                have n2_ : Aside0 (Below w.heap.size w ((w17.setCell ⟨gb456, 0, none⟩ (.int .i64 ((rd_T100 y452 x23_1).f0))).setCell ⟨gb456, 1, none⟩ (.int .i64 ((rd_T100 y452 x23_1).f1)))) := ⟨bel_⟩
                (try clear HO_21); (try clear BK456); (try clear HB); (try clear HM)
                generalize ((w17.setCell ⟨gb456, 0, none⟩ (.int .i64 ((rd_T100 y452 x23_1).f0))).setCell ⟨gb456, 1, none⟩ (.int .i64 ((rd_T100 y452 x23_1).f1))) = w19 at n9_ n0_ n1_ n2_ ⊢
                have HO_21 := n0_
                have BK456 := n1_
                have HB := n2_
                have HM := n9_
                clear n0_ n1_ n2_ n9_
                replace HO_21 := Aside0.mk (Kd.R_drew HO_21.out)
                replace BK456 := Aside0.mk (blk_drew BK456.out)
                replace HB := Aside0.mk (below_drew1 HB.out)
                replace HM := Aside0.mk (IsM.drew HM.out)
                have p457 : 0 ≤ (x23_1 : Int) := ofd_
                have q457 : x23_1 < (l2.length : Int) := ofd_
                obtain ⟨ad457, e457, hx457_0, hx457_1, hx457_2, hx457_3⟩ := at_T29 HR2.out x23_1 p457 q457
                have hw457_3 := hx457_3
                have hw457_2 := hx457_2
                have hw457_1 := hx457_1
                have hw457_0 := hx457_0
                cases e457
                replace hx457_0 := pw_cell_below HB.out hx457_0
                replace hx457_1 := pw_cell_below HB.out hx457_1
                replace hx457_2 := pw_cell_below HB.out hx457_2
                replace hx457_3 := pw_cell_below HB.out hx457_3
                replace p457 := eq_true p457
                replace q457 := eq_true q457
                refine start_ (n := 7) (S := fun w' => w'.cell? ⟨gb456, 0, none⟩ = some (.int .i64 ((rd_T100 y452 x23_1).f0)) ∧ w'.cell? ⟨gb456, 1, none⟩ = some (.int .i64 ((rd_T100 y452 x23_1).f1)) ∧ w'.cell? (ad457.add ((x23_1).toNat * 4)) = some (.int .u64 ((rd_T29 l2 x23_1).f0)) ∧ w'.cell? ⟨(ad457.add ((x23_1).toNat * 4)).block, (ad457.add ((x23_1).toNat * 4)).off + 1, none⟩ = some (.int .u64 ((rd_T29 l2 x23_1).f1)) ∧ w'.cell? ⟨(ad457.add ((x23_1).toNat * 4)).block, (ad457.add ((x23_1).toNat * 4)).off + 2, none⟩ = some (.int .u64 ((rd_T29 l2 x23_1).f2)) ∧ w'.cell? ⟨(ad457.add ((x23_1).toNat * 4)).block, (ad457.add ((x23_1).toNat * 4)).off + 3, none⟩ = some (.int .u64 ((rd_T29 l2 x23_1).f3))) (ds := []) #[false, false, false, false, false, false, false] (by kernel_rfl) rfl rfl ⟨(blk_cell BK456.out 0).trans rfl, (blk_cell BK456.out 1).trans rfl, (pw_cell_below HB.out hw457_0), (pw_cell_below HB.out hw457_1), (pw_cell_below HB.out hw457_2), (pw_cell_below HB.out hw457_3)⟩ (fun hHeld => ?_)
                generalize w19.drew = w20 at HO_21 BK456 HB HM hx457_0 hx457_1 hx457_2 hx457_3 hHeld ⊢
                refine pure_ (i := 0) (N := some 28) (v := ?_) (a' := ?_) #[true, false, false, false, false, false, false] rfl rfl (by kernel_rfl) (fun _ _ _ h => h) (Or.inl ⟨by rfl, ?_⟩) ?_ ?_
                rotate_left
                · intro w'
                  go_simp
                  with_reducible rfl
                rotate_left
                · simp only [Act.put, List.setIfInBounds_toArray, List.set_cons_zero, List.set_cons_succ, i64_w, i32_w]
                  rfl
                refine pure_ (i := 2) (N := some 30) (v := ?_) (a' := ?_) #[true, false, true, false, false, false, false] rfl rfl (by kernel_rfl) (fun _ _ _ h => h) (Or.inl ⟨by rfl, ?_⟩) ?_ ?_
                rotate_left
                · intro w'
                  go_simp
                  with_reducible rfl
                rotate_left
                · simp only [Act.put, List.setIfInBounds_toArray, List.set_cons_zero, List.set_cons_succ, i64_w, i32_w]
                  rfl
                refine pure_ (i := 3) (N := some 31) (v := ?_) (a' := ?_) #[true, false, true, true, false, false, false] rfl rfl (by kernel_rfl) (fun _ _ _ h => h) (Or.inl ⟨by rfl, ?_⟩) ?_ ?_
                rotate_left
                · intro w'
                  go_simp
                  with_reducible rfl
                rotate_left
                · simp only [Act.put, List.setIfInBounds_toArray, List.set_cons_zero, List.set_cons_succ, i64_w, i32_w]
                  rfl
                refine pure_ (i := 4) (N := some 32) (v := ?_) (a' := ?_) #[true, false, true, true, true, false, false] rfl rfl (by kernel_rfl) (fun _ _ _ h => h) (Or.inl ⟨by rfl, ?_⟩) ?_ ?_
                rotate_left
                · intro w'
                  go_simp
                  with_reducible rfl
                rotate_left
                · simp only [Act.put, List.setIfInBounds_toArray, List.set_cons_zero, List.set_cons_succ, i64_w, i32_w]
                  rfl
                refine take_ (i := 1) (N := some 29) (v := ?_) (a' := ?_) #[true, true, true, true, true, false, false] rfl rfl (by kernel_rfl) (fun _ _ _ h => h) (Or.inl ⟨by rfl, ?_⟩) hHeld ?_ ?_
                rotate_left
                · rintro w' ⟨s0, s1, s2, s3, s4, s5⟩
                  go_simp
                  with_reducible rfl
                rotate_left
                · simp only [Act.put, List.setIfInBounds_toArray, List.set_cons_zero, List.set_cons_succ, i64_w, i32_w]
                  rfl
                refine take_ (i := 5) (N := some 33) (v := ?_) (a' := ?_) #[true, true, true, true, true, true, false] rfl rfl (by kernel_rfl) (fun _ _ _ h => h) (Or.inl ⟨by rfl, ?_⟩) hHeld ?_ ?_
                rotate_left
                · rintro w' ⟨s0, s1, s2, s3, s4, s5⟩
                  go_simp
                  with_reducible rfl
                rotate_left
                · simp only [Act.put, List.setIfInBounds_toArray, List.set_cons_zero, List.set_cons_succ, i64_w, i32_w]
                  rfl
                refine one_ (i := 6) (N := none) #[true, true, true, true, true, true, true] rfl rfl (by kernel_rfl) (by decide) (fun K hK => ?_)
                have HL_ : y452.length < 8796093022208 := by rw [Ny452.out, List.length_append]; exact LMc6.out
                refine goPut_ rfl HM.out A16.out (by have := HX_.out; unfold maxLen; omega) ?_
                intro w21 hm_ hg_
                replace HO_21 := Aside0.mk (R_grownM HO_21.out HM.out hg_)
                replace HB := Aside0.mk (HB.out.grown hg_ HB.out.size (fun j_ hj_ => by cases hj_; exact GM_.out))
                replace BK456 := Aside0.mk (blk_grown BK456.out hg_ (fun e_ => IsM.ne HM.out BK456.out (Option.some.inj e_).symm))
                replace HM := Aside0.mk hm_
                clear hm_ hg_
                refine hK.out _ _ ⟨(blk_cell BK456.out 0).trans rfl, (blk_cell BK456.out 1).trans rfl, (pw_cell_below HB.out hw457_0), (pw_cell_below HB.out hw457_1), (pw_cell_below HB.out hw457_2), (pw_cell_below HB.out hw457_3)⟩ (fun hHeld => ?_)
                clear hK K
                refine norm_ (a' := ?_) ?_ ?_
                rotate_left
                · show Act.put _ none _ = _
                  simp only [Act.put, List.setIfInBounds_toArray, List.set_cons_zero, List.set_cons_succ, i64_w, i32_w]
                  rfl
                refine done_ (by kernel_rfl) ?_
                try go_wp2
                go_roundg k1
                case measure => have := HK1.out; omega
                case rel => exact ⟨(t458), (wrap64 (x23_1 + 1)), (by first | rfl | (simp; done) | (simp [*]; done)), H', ⟨by have := HK1.out; omega⟩, ⟨by (with_reducible repeat (first | apply Kd.R_alloc | apply Kd.R_drewN | apply Kd.R_drew)); exact Kd.R_mono HO_21.out (fun _ hk => trivial)⟩, ⟨by rw [show (wrap64 (x23_1 + 1)).toNat = (x23_1).toNat + 1 by (have := HX_.out; unfold wrap64; omega)]; exact isU_ HM.out⟩, ⟨bel_⟩⟩
              · rw [if_neg c15] at H
                exact absurd H (by simp)
            · rw [if_neg c14] at H
              exact absurd H (by simp)
          · rw [if_neg c13] at H
            exact absurd H (by simp)
        · rw [if_neg c12] at H
          have c12b0 : decide (x23_1 < (y452.length : Int)) = false := decide_eq_false c12
          clear c12
          obtain rfl := Option.some.inj H
          go_wp2
          go_ret
          exact ⟨gm_, rfl_, GM_.out, ⟨_, isU_ HM.out⟩, bel_⟩
  · rw [if_neg c6] at H
    exact absurd H (by simp)
end
end Go.Proofs.Ytflckegggopdnaa.B
