/- Texts that this claim's law leans on, without what nothing names. What each says stands at its theorems; conditions stand in them. (Put together by the session's program shake.py; Lean checks it.) -/
import Derived.Test.YtflckegggopdnaaZCHP0
import Derived.Test.YtflckegggopdnaaZCHP6
import Derived.Test.YtflckegggopdnaaZCHP2
import Derived.Test.YtflckegggopdnaaZCHGLawD1
import Derived.Test.YtflckegggopdnaaZCHP4
namespace Go.Proofs.Ytflckegggopdnaa.B
section
open Go.RowKit Go.Proofs.YtflckegggopdnaaW.PrintWords Go.Proofs.YtflckegggopdnaaW.PrintLast Go.Proofs.YtflckegggopdnaaW.PrintMore
attribute [local go_sem] max2_int min2_int max_two min_two max_three min_three max_four min_four
set_option linter.unusedVariables false
set_option maxHeartbeats 8000000
set_option maxRecDepth 100000
set_option linter.unusedSimpArgs false
section
def impl_known.l0 : Nat → List (S29) → MapD → List (S100) → Int → Int → Option (MapD)
 | 0, _, _, _, _, _ => none
 | k + 1, x2, x9, x21, x22, x23 => if x23 < x22 then (if 0 ≤ x23 then (if x23 < (x21.length : Int) then (if x23 < (x2.length : Int) then ((impl_putAt.f x9 ((rd_T100 x21 x23).f0) ((rd_T100 x21 x23).f1) ((rd_T29 x2 x23).f0) ((rd_T29 x2 x23).f1) ((rd_T29 x2 x23).f2) ((rd_T29 x2 x23).f3)).bind fun t458 => (impl_known.l0 k x2 t458 x21 x22 (wrap64 (x23 + 1)))) else (none)) else (none)) else (none)) else (some x9)
def impl_known.f (k : Nat) (a0 a1 : Int) (l2 : List (S29)) : Option (MapD) := (impl_growthNodes.f k a0 a1).bind fun bt445 => ((impl_makeAt.f).bind fun t451 => (if bt445.1.length + bt445.2.length < 8796093022208 then ((some (bt445.1 ++ bt445.2 : List (S100))).bind fun y452 => (impl_known.l0 k l2 t451 y452 (y452.length : Int) 0)) else (none)))
theorem impl_known.calls (k : Nat) (a0 a1 : Int) (A2 : Option Addr) (c2 : Nat) (l2 : List (S29)) (r : MapD) (w : World) (hr2 : Kd.C k29 w A2 l2.length l2) (hc2 : l2.length ≤ c2) (h : impl_known.f k a0 a1 l2 = some r) :
  Calls Try.prog 71 #[.int .i64 a0, .int .i64 a1, .slice A2 l2.length c2] w fun e w' => ∃ gm_ : Nat, e = .returned (.map (some gm_)) ∧ w.heap.size ≤ gm_ ∧ (∃ n_ : Nat, IsM w' gm_ n_ r) ∧ Below w.heap.size w w' := by
 have hu100 := Try.underlying100
 have hu29 := Try.underlying29
 have HR2 := Aside0.mk hr2
 have HC2 := Aside0.mk hc2
 clear hr2 hc2
 have HB := a_ (Below.refl w.heap.size w)
 have H := h
 unfold impl_known.f at H
 clear h
 obtain ⟨⟨t445, t446⟩, A4, H⟩ := bnd_ H
 dsimp only at H
 obtain ⟨t451, A5, H⟩ := bnd_ H
 by_cases c6 : t445.length + t446.length < 8796093022208
 ·rw [if_pos c6] at H
  have LMc6 := Aside0.mk c6
  clear c6
  obtain ⟨y452, hy452⟩ : ∃ y_ : List (S100), y_ = (t445 ++ t446) := ⟨_, rfl⟩
  replace H : (impl_known.l0 k l2 t451 y452 (y452.length : Int) 0) = some r := rpl_ hy452 H
  have Ny452 := Aside0.mk hy452
  clear hy452
  have H' := Aside0.mk H
  clear H
  go_enter Try.func71, Try.ntmps71
  go_wp2_with (first | (refine gcL_ 63 (some 15) Try.func63 #[.int .i64 a0, .int .i64 a1] ?_; (with_reducible refine (impl_growthNodes.calls k a0 a1 t445 t446 _ A4.out).mono ?_); rintro e w7 ⟨v447, v449, rfl, ho0, ho1, hb⟩; refine ⟨_, rfl, ?_⟩; have HO448 := a_ (Kd.R_lower ho0 (below_size bel_)); have HO450 := a_ (Kd.R_lower ho1 (below_size bel_)); replace HB := stepB_ hb; (try clear hb); (try clear hk); (try clear ho0); (try clear ho1)) | ((with_reducible refine gate_dst (N := 18) rfl ?_); refine goMake_ ?_; intro gm_ hgm_ w8 hm_ hb; have GM_ := sizeB_ hgm_; have HM := Aside0.mk hm_; clear hm_ hgm_; replace HO448 := rb_ HO448.out hb; have HN_ := a_ (R_map HO448.out HM.out).1; replace HO450 := rb_ HO450.out hb; replace HB := stepB_ hb; (try clear hb); (try clear hk); obtain ⟨Ao10, co10, eo10⟩ := Kd.R_slice HO450.out; subst eo10) | ((with_reducible refine gate_builtin (b := .append) (xs := #[.tmp 19, .tmp 20]) rfl ?_); at_builtin; refine Kd.R_append_rows k100 (w0 := w) w.heap.size rfl (.tmp 19) (.tmp 20) 96 100 (.agg #[(.int .i64 0), (.int .i64 0)]) 16 rfl Try.underlying96 info100 rfl (by decide) (by omega) v447 t445 t446 _ _ _ (fun k_ => some k_ ≠ (.slice Ao10 t446.length co10 : Value).ownBlock) (fun _ => False) rfl rfl ?aO ?aR (fun _ _ h => h) (fun _ h => h.elim) ?aF ?aB ?aS ?aL ?_; (case aR => repeat (first | exact (Kd.R_reads' HO450.out).2.2 | (with_reducible refine Kd.C_alloc ?_ _) | (with_reducible refine Kd.C_drewN ?_ _) | (with_reducible refine Kd.C_drew ?_))); (case aB => exact bel_); (case aF => exact (fun k_ hk => Kd.fresh' (Kd.R_lt (kdU_ HO450.out)) k_ hk)); (case aO => exact (kdU_ HO448.out)); (case aS => exact (below_size bel_)); (case aL => have := LMc6.out; omega); intro v453 w9 ho hb hg hat; replace HM := a_ (IsM.grown (isU_ HM.out) hg (fun e_ => (HN_.out gm_ e_.symm).2 rfl)); rw [← Ny452.out] at ho; replace HO450 := a_ (Kd.R_after (ok := (fun _ => True)) (by (with_reducible repeat (first | apply Kd.R_alloc | apply Kd.R_drewN | apply Kd.R_drew)); exact Kd.R_mono HO450.out (fun _ hk => ⟨trivial, hk⟩)) hg hat); replace HB := a_ (hb); have HO454 := a_ (ho); clear HO448; clear ho hb hg hat; obtain ⟨Ao11, co11, eo11⟩ := Kd.R_slice HO454.out; subst eo11))
  go_loopg [23] k (fun kq v23 w' => ∃ (x9_1 : MapD) (x23_1 : Int), v23 = .int .i64 x23_1 ∧ Aside0 (impl_known.l0 kq l2 x9_1 y452 (y452.length : Int) x23_1 = some r) ∧ Aside0 (kq ≤ k) ∧ Aside0 (Kd.R k100 100 w' w.heap.size (fun _ => True) (.slice Ao11 y452.length co11) y452) ∧ Aside0 (IsM w' gm_ (x23_1).toNat x9_1) ∧ Aside0 (Below w.heap.size w w'))
  case atStart => exact ⟨(t451), (0), rl_, H', ⟨Nat.le_refl _⟩, ⟨by (with_reducible repeat (first | apply Kd.R_alloc | apply Kd.R_drewN | apply Kd.R_drew)); exact Kd.R_mono HO454.out (fun _ hk => trivial)⟩, ⟨by rw [show t451 = [] from (Option.some.inj A5.out).symm]; exact isU_ HM.out⟩, ⟨bel_⟩⟩
  case round =>
   clear H'
   (try clear c2); (try clear c6)
   obtain ⟨x9_1, x23_1, rfl, HA, HK1, HO_21, HM, HB⟩ := hrel
   cases gk with
   | zero => exact absurd HA.out (by simp [impl_known.l0])
   | succ k1 =>
    have H := HA.out
    clear HA
    simp only [impl_known.l0] at H
    by_cases c12 : x23_1 < (y452.length : Int)
    ·rw [if_pos c12] at H
     have c12b0 := decide_eq_true c12
     clear c12
     by_cases c13 : 0 ≤ x23_1
     ·rw [if_pos c13] at H
      have c13b0 := decide_eq_true c13
      clear c13
      by_cases c14 : x23_1 < (y452.length : Int)
      ·rw [if_pos c14] at H
       have c14b0 := decide_eq_true c14
       clear c14
       by_cases c15 : x23_1 < (l2.length : Int)
       ·rw [if_pos c15] at H
        have c15b0 := decide_eq_true c15
        clear c15
        obtain ⟨t458, A16, H⟩ := bnd_ H
        have H' := Aside0.mk H
        clear H
        have p455 : 0 ≤ (x23_1 : Int) := ofd_
        have q455 : x23_1 < (y452.length : Int) := ofd_
        have HX_ := a_ (show (0 : Int) ≤ x23_1 ∧ x23_1 < (y452.length : Int) from ⟨p455, by assumption⟩)
        obtain ⟨ad455, e455, hx455_0, hx455_1⟩ := at_T100 (Kd.R_reads' HO_21.out).2.2 x23_1 p455 q455
        cases e455
        replace p455 := eq_true p455
        replace q455 := eq_true q455
        try go_wp2_with (first | ((with_reducible refine gate_dst (N := 11) rfl ?_); refine boxE_ (cs := #[.int .i64 0, .int .i64 0]) (t := 100) ?_; intro gb456 hg w17 hbox hb; replace HO_21 := a_ (Kd.R_below (Kd.R_elderB (kdU_ HO_21.out) gb456 (Nat.le_of_eq hg.symm)) hb); have BK456 := a_ (hbox); have GW456 := sizeB_ hg; replace HM := a_ (IsM.below (isU_ HM.out) hb); replace HB := stepB_ hb; clear hb hbox hg; obtain ⟨z18_0, z18_1, f18_0, f18_1⟩ := cz2_ BK456.out))
        have n9_ : Aside0 (IsM ((w17.setCell ⟨gb456, 0, none⟩ (.int .i64 ((rd_T100 y452 x23_1).f0))).setCell ⟨gb456, 1, none⟩ (.int .i64 ((rd_T100 y452 x23_1).f1))) gm_ (x23_1).toNat x9_1) := ⟨IsM.set (IsM.set HM.out (IsM.ne HM.out BK456.out) _) (IsM.ne HM.out BK456.out) _⟩
        have n0_ : Aside0 (Kd.R k100 100 ((w17.setCell ⟨gb456, 0, none⟩ (.int .i64 ((rd_T100 y452 x23_1).f0))).setCell ⟨gb456, 1, none⟩ (.int .i64 ((rd_T100 y452 x23_1).f1))) w.heap.size (fun k_ => k_ ≠ gb456) (.slice (some ad455) y452.length co11) y452) := ⟨by (with_reducible repeat (first | apply Kd.R_alloc | apply Kd.R_drewN | apply Kd.R_drew)); exact Kd.R_mono (Kd.R_far (p := ⟨gb456, 1, none⟩) (Kd.R_far (p := ⟨gb456, 0, none⟩) (Kd.R_mono HO_21.out (fun k_ hk => (⟨hk, hk.2⟩ : _ ∧ k_ ≠ gb456))) (fun _ hk => hk.2) (.int .i64 ((rd_T100 y452 x23_1).f0))) (fun _ hk => hk.2) (.int .i64 ((rd_T100 y452 x23_1).f1))) (fun _ hk => hk.1.2)⟩
        have n1_ : Aside0 (((w17.setCell ⟨gb456, 0, none⟩ (.int .i64 ((rd_T100 y452 x23_1).f0))).setCell ⟨gb456, 1, none⟩ (.int .i64 ((rd_T100 y452 x23_1).f1))).heap[gb456]? = some (.cells #[.int .i64 ((rd_T100 y452 x23_1).f0), .int .i64 ((rd_T100 y452 x23_1).f1)] 100 (0, 0))) := ⟨blkF_ BK456.out⟩
        have n2_ : Aside0 (Below w.heap.size w ((w17.setCell ⟨gb456, 0, none⟩ (.int .i64 ((rd_T100 y452 x23_1).f0))).setCell ⟨gb456, 1, none⟩ (.int .i64 ((rd_T100 y452 x23_1).f1)))) := ⟨bel_⟩
        (try clear HO_21); (try clear BK456); (try clear HB); (try clear HM)
        generalize ((w17.setCell ⟨gb456, 0, none⟩ (.int .i64 ((rd_T100 y452 x23_1).f0))).setCell ⟨gb456, 1, none⟩ (.int .i64 ((rd_T100 y452 x23_1).f1))) = w19 at n9_ n0_ n1_ n2_ ⊢
        have HO_21 := n0_
        have BK456 := n1_
        have HB := n2_
        have HM := n9_
        clear n0_ n1_ n2_ n9_
        replace HO_21 := a_ (Kd.R_drew HO_21.out)
        replace BK456 := a_ (blk_drew BK456.out)
        replace HB := a_ (below_drew1 HB.out)
        replace HM := a_ (IsM.drew HM.out)
        have p457 : 0 ≤ (x23_1 : Int) := ofd_
        have q457 : x23_1 < (l2.length : Int) := ofd_
        obtain ⟨ad457, e457, hx457_0, hx457_1, hx457_2, hx457_3⟩ := at_T29 HR2.out x23_1 p457 q457
        have hw457_3 := hx457_3
        have hw457_2 := hx457_2
        have hw457_1 := hx457_1
        have hw457_0 := hx457_0
        cases e457
        replace hx457_0 := pc_ HB.out hx457_0
        replace hx457_1 := pc_ HB.out hx457_1
        replace hx457_2 := pc_ HB.out hx457_2
        replace hx457_3 := pc_ HB.out hx457_3
        replace p457 := eq_true p457
        replace q457 := eq_true q457
        refine start_ (n := 7) (S := fun w' => w'.cell? ⟨gb456, 0, none⟩ = some (.int .i64 ((rd_T100 y452 x23_1).f0)) ∧ w'.cell? ⟨gb456, 1, none⟩ = some (.int .i64 ((rd_T100 y452 x23_1).f1)) ∧ w'.cell? (ad457.add ((x23_1).toNat * 4)) = some (.int .u64 ((rd_T29 l2 x23_1).f0)) ∧ w'.cell? ⟨(ad457.add ((x23_1).toNat * 4)).block, (ad457.add ((x23_1).toNat * 4)).off + 1, none⟩ = some (.int .u64 ((rd_T29 l2 x23_1).f1)) ∧ w'.cell? ⟨(ad457.add ((x23_1).toNat * 4)).block, (ad457.add ((x23_1).toNat * 4)).off + 2, none⟩ = some (.int .u64 ((rd_T29 l2 x23_1).f2)) ∧ w'.cell? ⟨(ad457.add ((x23_1).toNat * 4)).block, (ad457.add ((x23_1).toNat * 4)).off + 3, none⟩ = some (.int .u64 ((rd_T29 l2 x23_1).f3))) (ds := []) #[false, false, false, false, false, false, false] (by kernel_rfl) rfl rfl ⟨(blk_cell BK456.out 0).trans rfl, (blk_cell BK456.out 1).trans rfl, (pc_ HB.out hw457_0), (pc_ HB.out hw457_1), (pc_ HB.out hw457_2), (pc_ HB.out hw457_3)⟩ (fun hHeld => ?_)
        generalize w19.drew = w20 at HO_21 BK456 HB HM hx457_0 hx457_1 hx457_2 hx457_3 hHeld ⊢
        refine pure_ (i := 0) (N := some 28) (v := ?_) (a' := ?_) #[true, false, false, false, false, false, false] rfl rfl (by kernel_rfl) (fun _ _ _ h => h) (Or.inl ⟨by rfl, ?_⟩) ?_ ?_
        rotate_left
        ·intro w'
         go_simp
         with_reducible rfl
        rotate_left
        ·simp only [Act.put, List.setIfInBounds_toArray, List.set_cons_zero, List.set_cons_succ, i64_w, i32_w]
         rfl
        refine pure_ (i := 2) (N := some 30) (v := ?_) (a' := ?_) #[true, false, true, false, false, false, false] rfl rfl (by kernel_rfl) (fun _ _ _ h => h) (Or.inl ⟨by rfl, ?_⟩) ?_ ?_
        rotate_left
        ·intro w'
         go_simp
         with_reducible rfl
        rotate_left
        ·simp only [Act.put, List.setIfInBounds_toArray, List.set_cons_zero, List.set_cons_succ, i64_w, i32_w]
         rfl
        refine pure_ (i := 3) (N := some 31) (v := ?_) (a' := ?_) #[true, false, true, true, false, false, false] rfl rfl (by kernel_rfl) (fun _ _ _ h => h) (Or.inl ⟨by rfl, ?_⟩) ?_ ?_
        rotate_left
        ·intro w'
         go_simp
         with_reducible rfl
        rotate_left
        ·simp only [Act.put, List.setIfInBounds_toArray, List.set_cons_zero, List.set_cons_succ, i64_w, i32_w]
         rfl
        refine pure_ (i := 4) (N := some 32) (v := ?_) (a' := ?_) #[true, false, true, true, true, false, false] rfl rfl (by kernel_rfl) (fun _ _ _ h => h) (Or.inl ⟨by rfl, ?_⟩) ?_ ?_
        rotate_left
        ·intro w'
         go_simp
         with_reducible rfl
        rotate_left
        ·simp only [Act.put, List.setIfInBounds_toArray, List.set_cons_zero, List.set_cons_succ, i64_w, i32_w]
         rfl
        refine take_ (i := 1) (N := some 29) (v := ?_) (a' := ?_) #[true, true, true, true, true, false, false] rfl rfl (by kernel_rfl) (fun _ _ _ h => h) (Or.inl ⟨by rfl, ?_⟩) hHeld ?_ ?_
        rotate_left
        ·rintro w' ⟨s0, s1, s2, s3, s4, s5⟩
         go_simp
         with_reducible rfl
        rotate_left
        ·simp only [Act.put, List.setIfInBounds_toArray, List.set_cons_zero, List.set_cons_succ, i64_w, i32_w]
         rfl
        refine take_ (i := 5) (N := some 33) (v := ?_) (a' := ?_) #[true, true, true, true, true, true, false] rfl rfl (by kernel_rfl) (fun _ _ _ h => h) (Or.inl ⟨by rfl, ?_⟩) hHeld ?_ ?_
        rotate_left
        ·rintro w' ⟨s0, s1, s2, s3, s4, s5⟩
         go_simp
         with_reducible rfl
        rotate_left
        ·simp only [Act.put, List.setIfInBounds_toArray, List.set_cons_zero, List.set_cons_succ, i64_w, i32_w]
         rfl
        refine one_ (i := 6) (N := none) #[true, true, true, true, true, true, true] rfl rfl (by kernel_rfl) (by decide) (fun K hK => ?_)
        have HL_ : y452.length < 8796093022208 := by rw [Ny452.out, List.length_append]; exact LMc6.out
        refine goPut_ rfl HM.out A16.out (by have := HX_.out; unfold maxLen; omega) ?_
        intro w21 hm_ hg_
        replace HO_21 := a_ (R_grownM HO_21.out HM.out hg_)
        replace HB := a_ (HB.out.grown hg_ HB.out.size (fun j_ hj_ => by cases hj_; exact GM_.out))
        replace BK456 := a_ (blk_grown BK456.out hg_ (fun e_ => IsM.ne HM.out BK456.out (Option.some.inj e_).symm))
        replace HM := Aside0.mk hm_
        clear hm_ hg_
        refine hK.out _ _ ⟨(blk_cell BK456.out 0).trans rfl, (blk_cell BK456.out 1).trans rfl, (pc_ HB.out hw457_0), (pc_ HB.out hw457_1), (pc_ HB.out hw457_2), (pc_ HB.out hw457_3)⟩ (fun hHeld => ?_)
        clear hK K
        refine normP_ none ?_
        refine done_ (by kernel_rfl) ?_
        try go_wp2
        go_roundg k1
        case measure => have := HK1.out; omega
        case rel => exact ⟨(t458), (wrap64 (x23_1 + 1)), rl_, H', ⟨by have := HK1.out; omega⟩, ⟨by (with_reducible repeat (first | apply Kd.R_alloc | apply Kd.R_drewN | apply Kd.R_drew)); exact Kd.R_mono HO_21.out (fun _ hk => trivial)⟩, ⟨by rw [show (wrap64 (x23_1 + 1)).toNat = (x23_1).toNat + 1 by (have := HX_.out; unfold wrap64; omega)]; exact isU_ HM.out⟩, ⟨bel_⟩⟩
       ·rw [if_neg c15] at H
        exact absurd H (by simp)
      ·rw [if_neg c14] at H
       exact absurd H (by simp)
     ·rw [if_neg c13] at H
      exact absurd H (by simp)
    ·rw [if_neg c12] at H
     have c12b0 := decide_eq_false c12
     clear c12
     obtain rfl := Option.some.inj H
     go_wp2
     go_ret
     exact ⟨gm_, rfl_, GM_.out, ⟨_, isU_ HM.out⟩, bel_⟩
 ·rw [if_neg c6] at H
  exact absurd H (by simp)
end
section
mutual
def spec_ClashFirst.l0 : Nat → List ByteArray → List ByteArray → Int → Option (ByteArray × ByteArray × Bool)
 | 0, _, _, _ => none
 | k + 1, x0, x1, x6 => if x6 < (x0.length : Int) then (spec_ClashFirst.j1 k x0 x1 x6 (decide (x6 < (x1.length : Int)))) else (spec_ClashFirst.j1 k x0 x1 x6 false)
def spec_ClashFirst.j1 : Nat → List ByteArray → List ByteArray → Int → Bool → Option (ByteArray × ByteArray × Bool)
 | 0, _, _, _, _ => none
 | k + 1, x0, x1, x6, x16 => if x16 = true then (if 0 ≤ x6 then (if x6 < (x0.length : Int) then (if x6 < (x1.length : Int) then (if (rdOf ByteArray.empty x0 x6).toList = (rdOf ByteArray.empty x1 x6).toList then (spec_ClashFirst.l0 k x0 x1 (wrap64 (x6 + 1))) else (some (rdOf ByteArray.empty x0 x6, rdOf ByteArray.empty x1 x6, true))) else (none)) else (none)) else (none)) else (some ((⟨#[]⟩ : ByteArray), (⟨#[]⟩ : ByteArray), false))
end
def spec_ClashFirst.f (k : Nat) (l0 l1 : List ByteArray) : Option (ByteArray × ByteArray × Bool) := spec_ClashFirst.l0 k l0 l1 0
def spec_ClashFirst.T4 : Bool × List (List Nat × List Nat) := (true, [([], []), ([], []), ([0, 1], [0, 1]), ([2], [2]), ([], []), ([], []), ([4, 5], [4, 5]), ([6], [6]), ([3, 7], [3, 7])])
def spec_ClashFirst.B4 : List Nat := [0, 0, 3, 7, 0, 0, 48, 112, 255]
theorem spec_ClashFirst.tab4 : rtab .any (opsOf Try.f47 4) = spec_ClashFirst.T4 := by kernel_rfl
theorem spec_ClashFirst.bits4 : waitsOk spec_ClashFirst.T4.2 spec_ClashFirst.B4 = true := by kernel_rfl
def spec_ClashFirst.T5 : Bool × List (List Nat × List Nat) := (true, [([], []), ([], []), ([0, 1], [0, 1]), ([2], [2]), ([], []), ([], []), ([4, 5], [4, 5]), ([6], [6]), ([3, 7], [3, 7]), ([8, 0, 1, 2, 3, 4, 5, 6, 7, 8], [8]), ([9, 0, 1, 2, 3, 4, 5, 6, 7, 8, 9], [])])
def spec_ClashFirst.B5 : List Nat := [0, 0, 3, 7, 0, 0, 48, 112, 255, 511, 1023]
theorem spec_ClashFirst.tab5 : rtab .any (opsOf Try.f47 5) = spec_ClashFirst.T5 := by kernel_rfl
theorem spec_ClashFirst.bits5 : waitsOk spec_ClashFirst.T5.2 spec_ClashFirst.B5 = true := by kernel_rfl
theorem spec_ClashFirst.calls (k : Nat) (A0 : Option Addr) (c0 : Nat) (l0 : List ByteArray) (A1 : Option Addr) (c1 : Nat) (l1 : List ByteArray) (r1 r2 : ByteArray) (r3 : Bool) (w : World) (hr0 : Kd.C Kd.string w A0 l0.length l0) (hc0 : l0.length ≤ c0) (hr1 : Kd.C Kd.string w A1 l1.length l1) (hc1 : l1.length ≤ c1) (h : spec_ClashFirst.f k l0 l1 = some (r1, r2, r3)) :
  Calls Try.prog 47 #[.slice A0 l0.length c0, .slice A1 l1.length c1] w fun e w' => e = .returned (.tuple #[.agg #[.string r1, .string r2], .bool r3]) ∧ Below w.heap.size w w' := by
 have hu46 := Try.underlying46
 have HR0 := Aside0.mk hr0
 have HC0 := Aside0.mk hc0
 clear hr0 hc0
 have HR1 := Aside0.mk hr1
 have HC1 := Aside0.mk hc1
 clear hr1 hc1
 have HB := a_ (Below.refl w.heap.size w)
 have H := h
 unfold spec_ClashFirst.f at H
 clear h
 have H' := Aside0.mk H
 clear H
 go_enter Try.func47, Try.ntmps47
 go_wp2_with (first | ((with_reducible refine gate_dst (N := 4) rfl ?_); (try (refine gate_guard (by rfl) ?_; dsimp only)); refine boxE_ (cs := #[.string (⟨#[]⟩ : ByteArray), .string (⟨#[]⟩ : ByteArray)]) (t := 46) ?_; intro gb670 hg w3 hbox hb; have BK670 := a_ (hbox); have GW670 := sizeB_ hg; replace HB := stepB_ hb; clear hb hbox hg))
 go_loopg [6] k (fun kq v6 w' => ∃ (x6_1 : Int) (x671000_1 x671001_1 : ByteArray), v6 = .int .i64 x6_1 ∧ Aside0 (spec_ClashFirst.l0 kq l0 l1 x6_1 = some (r1, r2, r3)) ∧ Aside0 (kq ≤ k) ∧ Aside0 (w'.heap[gb670]? = some (.cells #[.string x671000_1, .string x671001_1] 46 (0, 0))) ∧ Aside0 (Below w.heap.size w w'))
 case atStart => exact ⟨(0), ((⟨#[]⟩ : ByteArray)), ((⟨#[]⟩ : ByteArray)), rl_, H', ⟨Nat.le_refl _⟩, ⟨blkU_ BK670.out⟩, ⟨bel_⟩⟩
 case round =>
  clear H'
  (try clear c1)
  obtain ⟨x6_1, x671000_1, x671001_1, rfl, HA, HK1, BK670, HB⟩ := hrel
  cases gk with
  | zero => exact absurd HA.out (by simp [spec_ClashFirst.l0])
  | succ k1 =>
   have H := HA.out
   clear HA
   simp only [spec_ClashFirst.l0] at H
   have HC4 := Aside0.mk H
   clear H
   go_upto_region 2 with (fail)
   go_cut [16] (fun v16 wc => ∃ (kq : Nat) (x16_3 : Bool), v16 = .bool x16_3 ∧ Aside0 (spec_ClashFirst.j1 kq l0 l1 x6_1 x16_3 = some (r1, r2, r3)) ∧ Aside0 (kq ≤ k1) ∧ Aside0 (wc.heap[gb670]? = some (.cells #[.string x671000_1, .string x671001_1] 46 (0, 0))) ∧ Aside0 (Below w.heap.size w wc))
   case first =>
    have H := HC4.out
    clear HC4
    by_cases c5 : x6_1 < (l0.length : Int)
    ·rw [if_pos c5] at H
     have c5b0 := decide_eq_true c5
     clear c5
     (first | rw [c5b0] | (simp only [i64_w, i32_w]; rw [c5b0]) | skip)
     have H' := Aside0.mk H
     clear H
     go_wp2
     go_meet
     case rel => exact ⟨_, (decide (x6_1 < (l1.length : Int))), rl_, H', ⟨by have := HK1.out; first | omega | exact Nat.le_refl _⟩, ⟨blkU_ BK670.out⟩, ⟨bel_⟩⟩
    ·rw [if_neg c5] at H
     have c5b0 := decide_eq_false c5
     clear c5
     (first | rw [c5b0] | (simp only [i64_w, i32_w]; rw [c5b0]) | skip)
     have H' := Aside0.mk H
     clear H
     go_wp2
     go_meet
     case rel => exact ⟨_, (false), rl_, H', ⟨by have := HK1.out; first | omega | exact Nat.le_refl _⟩, ⟨blkU_ BK670.out⟩, ⟨bel_⟩⟩
   case rest =>
    clear HC4
    (try clear c1); (try clear c5); (try clear c5b0)
    obtain ⟨kq, x16_3, rfl, HA, HJ3, BK670, HB⟩ := hcut
    cases kq with
    | zero => exact absurd HA.out (by simp [spec_ClashFirst.j1])
    | succ kj3 =>
     have H := HA.out
     clear HA
     simp only [spec_ClashFirst.j1] at H
     by_cases c6 : x16_3 = true
     ·subst c6
      rw [if_pos rfl] at H
      by_cases c7 : 0 ≤ x6_1
      ·rw [if_pos c7] at H
       have c7b0 := decide_eq_true c7
       clear c7
       by_cases c8 : x6_1 < (l0.length : Int)
       ·rw [if_pos c8] at H
        have c8b0 := decide_eq_true c8
        clear c8
        by_cases c9 : x6_1 < (l1.length : Int)
        ·rw [if_pos c9] at H
         have c9b0 := decide_eq_true c9
         clear c9
         by_cases c10 : (rdOf ByteArray.empty l0 x6_1).toList = (rdOf ByteArray.empty l1 x6_1).toList
         ·rw [if_pos c10] at H
          have c10b0 := beq_iff_eq.mpr c10
          have c10b1 := bne_eq_false_iff_eq.mpr c10
          clear c10
          have H' := Aside0.mk H
          clear H
          try go_wp2
          replace BK670 := a_ (blk_drew BK670.out)
          replace HB := a_ (below_drew1 HB.out)
          have p671 : 0 ≤ (x6_1 : Int) := ofd_
          have q671 : x6_1 < (l0.length : Int) := ofd_
          obtain ⟨ad671, e671, hx671_0⟩ := Kd.at_string HR0.out x6_1 p671 q671
          have hw671_0 := hx671_0
          cases e671
          replace hx671_0 := pc_ HB.out hx671_0
          replace p671 := eq_true p671
          replace q671 := eq_true q671
          have p672 : 0 ≤ (x6_1 : Int) := ofd_
          have q672 : x6_1 < (l1.length : Int) := ofd_
          obtain ⟨ad672, e672, hx672_0⟩ := Kd.at_string HR1.out x6_1 p672 q672
          have hw672_0 := hx672_0
          cases e672
          replace hx672_0 := pc_ HB.out hx672_0
          replace p672 := eq_true p672
          replace q672 := eq_true q672
          refine start_ (n := 9) (S := fun w' => w'.cell? (ad671.add (x6_1).toNat) = some (.string (rdOf ByteArray.empty l0 x6_1)) ∧ w'.cell? (ad672.add (x6_1).toNat) = some (.string (rdOf ByteArray.empty l1 x6_1))) (ds := []) #[false, false, false, false, false, false, false, false, false] (by kernel_rfl) rfl rfl ⟨(pc_ HB.out hw671_0), (pc_ HB.out hw672_0)⟩ (fun hHeld => ?_); refine with_tabW spec_ClashFirst.tab4 spec_ClashFirst.bits4 (fun HT HW_ => ?_)
          generalize wc.drew = w11 at BK670 HB hx671_0 hx672_0 hHeld ⊢
          refine pP_ 0 (some 19) (b_ 9 1) HT ?_
          refine pP_ 1 (some 20) (b_ 9 3) HT ?_
          refine pP_ 2 (some 21) (b_ 9 7) HT ?_
          refine pP_ 4 (some 23) (b_ 9 23) HT ?_
          refine pP_ 5 (some 24) (b_ 9 55) HT ?_
          refine pP_ 6 (some 25) (b_ 9 119) HT ?_
          refine takeP_ 3 (some 22) (b_ 9 127) HT HW_ hHeld ?_
          refine takeP_ 7 (some 26) (b_ 9 255) HT HW_ hHeld ?_
          refine pP_ 8 (some 27) (b_ 9 511) HT ?_
          refine done_ (done_of HT.out (by kernel_rfl)) ?_
          try go_wp2
          go_roundg kj3
          case measure => have := HK1.out; have := HJ3.out; omega
          case rel => exact ⟨(wrap64 (x6_1 + 1)), (x671000_1), (x671001_1), rl_, H', ⟨by have := HK1.out; have := HJ3.out; omega⟩, ⟨blkU_ BK670.out⟩, ⟨bel_⟩⟩
         ·rw [if_neg c10] at H
          have c10b0 := beq_eq_false_iff_ne.mpr c10
          have c10b1 := bne_iff_ne.mpr c10
          simp only [Option.some.injEq, Prod.mk.injEq] at H
          obtain ⟨rfl, rfl, rfl⟩ := H
          try go_wp2
          replace BK670 := a_ (blk_drew BK670.out)
          replace HB := a_ (below_drew1 HB.out)
          have p671 : 0 ≤ (x6_1 : Int) := ofd_
          have q671 : x6_1 < (l0.length : Int) := ofd_
          obtain ⟨ad671, e671, hx671_0⟩ := Kd.at_string HR0.out x6_1 p671 q671
          have hw671_0 := hx671_0
          cases e671
          replace hx671_0 := pc_ HB.out hx671_0
          replace p671 := eq_true p671
          replace q671 := eq_true q671
          have p672 : 0 ≤ (x6_1 : Int) := ofd_
          have q672 : x6_1 < (l1.length : Int) := ofd_
          obtain ⟨ad672, e672, hx672_0⟩ := Kd.at_string HR1.out x6_1 p672 q672
          have hw672_0 := hx672_0
          cases e672
          replace hx672_0 := pc_ HB.out hx672_0
          replace p672 := eq_true p672
          replace q672 := eq_true q672
          refine start_ (n := 9) (S := fun w' => w'.cell? (ad671.add (x6_1).toNat) = some (.string (rdOf ByteArray.empty l0 x6_1)) ∧ w'.cell? (ad672.add (x6_1).toNat) = some (.string (rdOf ByteArray.empty l1 x6_1))) (ds := []) #[false, false, false, false, false, false, false, false, false] (by kernel_rfl) rfl rfl ⟨(pc_ HB.out hw671_0), (pc_ HB.out hw672_0)⟩ (fun hHeld => ?_); refine with_tabW spec_ClashFirst.tab4 spec_ClashFirst.bits4 (fun HT HW_ => ?_)
          generalize wc.drew = w12 at BK670 HB hx671_0 hx672_0 hHeld ⊢
          refine pP_ 0 (some 19) (b_ 9 1) HT ?_
          refine pP_ 1 (some 20) (b_ 9 3) HT ?_
          refine pP_ 2 (some 21) (b_ 9 7) HT ?_
          refine pP_ 4 (some 23) (b_ 9 23) HT ?_
          refine pP_ 5 (some 24) (b_ 9 55) HT ?_
          refine pP_ 6 (some 25) (b_ 9 119) HT ?_
          refine takeP_ 3 (some 22) (b_ 9 127) HT HW_ hHeld ?_
          refine takeP_ 7 (some 26) (b_ 9 255) HT HW_ hHeld ?_
          refine pP_ 8 (some 27) (b_ 9 511) HT ?_
          refine done_ (done_of HT.out (by kernel_rfl)) ?_
          try go_wp2
          replace BK670 := a_ (blk_drew BK670.out)
          replace HB := a_ (below_drew1 HB.out)
          have p673 : 0 ≤ (x6_1 : Int) := ofd_
          have q673 : x6_1 < (l0.length : Int) := ofd_
          obtain ⟨ad673, e673, hx673_0⟩ := Kd.at_string HR0.out x6_1 p673 q673
          have hw673_0 := hx673_0
          obtain rfl : ad671 = ad673 := (by injection e673)
          replace hx673_0 := pc_ HB.out hx673_0
          replace p673 := eq_true p673
          replace q673 := eq_true q673
          have p674 : 0 ≤ (x6_1 : Int) := ofd_
          have q674 : x6_1 < (l1.length : Int) := ofd_
          obtain ⟨ad674, e674, hx674_0⟩ := Kd.at_string HR1.out x6_1 p674 q674
          have hw674_0 := hx674_0
          obtain rfl : ad672 = ad674 := (by injection e674)
          replace hx674_0 := pc_ HB.out hx674_0
          replace p674 := eq_true p674
          replace q674 := eq_true q674
          refine start_ (n := 11) (S := fun w' => w'.cell? (ad671.add (x6_1).toNat) = some (.string (rdOf ByteArray.empty l0 x6_1)) ∧ w'.cell? (ad672.add (x6_1).toNat) = some (.string (rdOf ByteArray.empty l1 x6_1))) (ds := []) #[false, false, false, false, false, false, false, false, false, false, false] (by kernel_rfl) rfl rfl ⟨(pc_ HB.out hw673_0), (pc_ HB.out hw674_0)⟩ (fun hHeld => ?_); refine with_tabW spec_ClashFirst.tab5 spec_ClashFirst.bits5 (fun HT HW_ => ?_)
          generalize w12.drew = w13 at BK670 HB hx673_0 hx674_0 hHeld ⊢
          refine pP_ 0 (some 28) (b_ 11 1) HT ?_
          refine pP_ 1 (some 29) (b_ 11 3) HT ?_
          refine pP_ 2 (some 30) (b_ 11 7) HT ?_
          refine pP_ 4 (some 32) (b_ 11 23) HT ?_
          refine pP_ 5 (some 33) (b_ 11 55) HT ?_
          refine pP_ 6 (some 34) (b_ 11 119) HT ?_
          refine takeP_ 3 (some 31) (b_ 11 127) HT HW_ hHeld ?_
          refine takeP_ 7 (some 35) (b_ 11 255) HT HW_ hHeld ?_
          refine pP_ 8 (some 36) (b_ 11 511) HT ?_
          refine oneP_ 9 none (b_ 11 1023) HT (fun K hK => ?_)
          have hs14 : w13.cell? ⟨gb670, 0, none⟩ = some (.string x671000_1) := (blk_cell BK670.out 0).trans rfl
          have hfs14 := blk_frozen BK670.out 0
          have hs15 : w13.cell? ⟨gb670, 1, none⟩ = some (.string x671001_1) := (blk_cell BK670.out 1).trans rfl
          have hfs15 := blk_frozen BK670.out 1
          refine skip_ (w1 := ?_) (by rfl) rfl ?_ ?_
          rotate_left
          ·go_simp
           rfl
          refine hK.out _ _ ⟨(cf2_ (nw_ hw673_0 GW670.out) hHeld.1), (cf2_ (nw_ hw674_0 GW670.out) hHeld.2)⟩ (fun hHeld => ?_)
          clear hK K
          refine pP_ 10 (some 5) (b_ 11 2047) HT ?_
          refine done_ (done_of HT.out (by kernel_rfl)) ?_
          try go_wp2
          refine bodyPost_ret (results_ct rfl _ _ gb670 46 #[.string (rdOf ByteArray.empty l0 x6_1), .string (rdOf ByteArray.empty l1 x6_1)] (0, 0) _ rfl (blkF_ BK670.out) Try.underlying46 rfl (by kernel_rfl)) rfl ?_
          exact ⟨rfl_, bel_⟩
        ·rw [if_neg c9] at H
         exact absurd H (by simp)
       ·rw [if_neg c8] at H
        exact absurd H (by simp)
      ·rw [if_neg c7] at H
       exact absurd H (by simp)
     ·replace c6 := Bool.eq_false_iff.mpr c6
      subst c6
      rw [if_neg (show ¬ (false = true) by decide)] at H
      simp only [Option.some.injEq, Prod.mk.injEq] at H
      obtain ⟨rfl, rfl, rfl⟩ := H
      obtain ⟨z16_0, z16_1, f16_0, f16_1⟩ := cz2_ BK670.out
      go_wp2
      refine bodyPost_ret (results_ct rfl _ _ gb670 46 #[.string (⟨#[]⟩ : ByteArray), .string (⟨#[]⟩ : ByteArray)] (0, 0) _ rfl (blkF_ BK670.out) Try.underlying46 rfl (by kernel_rfl)) rfl ?_
      exact ⟨rfl_, bel_⟩
end
section
mutual
def impl_ClashFirst.l0 : Nat → List ByteArray → List ByteArray → Int → Option (ByteArray × ByteArray × Bool)
 | 0, _, _, _ => none
 | k + 1, x0, x1, x6 => if x6 < (x0.length : Int) then (impl_ClashFirst.j1 k x0 x1 x6 (decide (x6 < (x1.length : Int)))) else (impl_ClashFirst.j1 k x0 x1 x6 false)
def impl_ClashFirst.j1 : Nat → List ByteArray → List ByteArray → Int → Bool → Option (ByteArray × ByteArray × Bool)
 | 0, _, _, _, _ => none
 | k + 1, x0, x1, x6, x16 => if x16 = true then (if 0 ≤ x6 then (if x6 < (x0.length : Int) then (if x6 < (x1.length : Int) then (if (rdOf ByteArray.empty x0 x6).toList = (rdOf ByteArray.empty x1 x6).toList then (impl_ClashFirst.l0 k x0 x1 (wrap64 (x6 + 1))) else (some (rdOf ByteArray.empty x0 x6, rdOf ByteArray.empty x1 x6, true))) else (none)) else (none)) else (none)) else (some ((⟨#[]⟩ : ByteArray), (⟨#[]⟩ : ByteArray), false))
end
def impl_ClashFirst.f (k : Nat) (l0 l1 : List ByteArray) : Option (ByteArray × ByteArray × Bool) := impl_ClashFirst.l0 k l0 l1 0
def impl_ClashFirst.T4 : Bool × List (List Nat × List Nat) := (true, [([], []), ([], []), ([0, 1], [0, 1]), ([2], [2]), ([], []), ([], []), ([4, 5], [4, 5]), ([6], [6]), ([3, 7], [3, 7])])
def impl_ClashFirst.B4 : List Nat := [0, 0, 3, 7, 0, 0, 48, 112, 255]
theorem impl_ClashFirst.tab4 : rtab .any (opsOf Try.f53 4) = impl_ClashFirst.T4 := by kernel_rfl
theorem impl_ClashFirst.bits4 : waitsOk impl_ClashFirst.T4.2 impl_ClashFirst.B4 = true := by kernel_rfl
def impl_ClashFirst.T5 : Bool × List (List Nat × List Nat) := (true, [([], []), ([], []), ([0, 1], [0, 1]), ([2], [2]), ([], []), ([], []), ([4, 5], [4, 5]), ([6], [6]), ([3, 7], [3, 7]), ([8, 0, 1, 2, 3, 4, 5, 6, 7, 8], [8]), ([9, 0, 1, 2, 3, 4, 5, 6, 7, 8, 9], [])])
def impl_ClashFirst.B5 : List Nat := [0, 0, 3, 7, 0, 0, 48, 112, 255, 511, 1023]
theorem impl_ClashFirst.tab5 : rtab .any (opsOf Try.f53 5) = impl_ClashFirst.T5 := by kernel_rfl
theorem impl_ClashFirst.bits5 : waitsOk impl_ClashFirst.T5.2 impl_ClashFirst.B5 = true := by kernel_rfl
theorem impl_ClashFirst.calls (k : Nat) (A0 : Option Addr) (c0 : Nat) (l0 : List ByteArray) (A1 : Option Addr) (c1 : Nat) (l1 : List ByteArray) (r1 r2 : ByteArray) (r3 : Bool) (w : World) (hr0 : Kd.C Kd.string w A0 l0.length l0) (hc0 : l0.length ≤ c0) (hr1 : Kd.C Kd.string w A1 l1.length l1) (hc1 : l1.length ≤ c1) (h : impl_ClashFirst.f k l0 l1 = some (r1, r2, r3)) :
  Calls Try.prog 53 #[.slice A0 l0.length c0, .slice A1 l1.length c1] w fun e w' => e = .returned (.tuple #[.agg #[.string r1, .string r2], .bool r3]) ∧ Below w.heap.size w w' := by
 have hu46 := Try.underlying46
 have HR0 := Aside0.mk hr0
 have HC0 := Aside0.mk hc0
 clear hr0 hc0
 have HR1 := Aside0.mk hr1
 have HC1 := Aside0.mk hc1
 clear hr1 hc1
 have HB := a_ (Below.refl w.heap.size w)
 have H := h
 unfold impl_ClashFirst.f at H
 clear h
 have H' := Aside0.mk H
 clear H
 go_enter Try.func53, Try.ntmps53
 go_wp2_with (first | ((with_reducible refine gate_dst (N := 4) rfl ?_); (try (refine gate_guard (by rfl) ?_; dsimp only)); refine boxE_ (cs := #[.string (⟨#[]⟩ : ByteArray), .string (⟨#[]⟩ : ByteArray)]) (t := 46) ?_; intro gb913 hg w3 hbox hb; have BK913 := a_ (hbox); have GW913 := sizeB_ hg; replace HB := stepB_ hb; clear hb hbox hg))
 go_loopg [6] k (fun kq v6 w' => ∃ (x6_1 : Int) (x914000_1 x914001_1 : ByteArray), v6 = .int .i64 x6_1 ∧ Aside0 (impl_ClashFirst.l0 kq l0 l1 x6_1 = some (r1, r2, r3)) ∧ Aside0 (kq ≤ k) ∧ Aside0 (w'.heap[gb913]? = some (.cells #[.string x914000_1, .string x914001_1] 46 (0, 0))) ∧ Aside0 (Below w.heap.size w w'))
 case atStart => exact ⟨(0), ((⟨#[]⟩ : ByteArray)), ((⟨#[]⟩ : ByteArray)), rl_, H', ⟨Nat.le_refl _⟩, ⟨blkU_ BK913.out⟩, ⟨bel_⟩⟩
 case round =>
  clear H'
  (try clear c1)
  obtain ⟨x6_1, x914000_1, x914001_1, rfl, HA, HK1, BK913, HB⟩ := hrel
  cases gk with
  | zero => exact absurd HA.out (by simp [impl_ClashFirst.l0])
  | succ k1 =>
   have H := HA.out
   clear HA
   simp only [impl_ClashFirst.l0] at H
   have HC4 := Aside0.mk H
   clear H
   go_upto_region 2 with (fail)
   go_cut [16] (fun v16 wc => ∃ (kq : Nat) (x16_3 : Bool), v16 = .bool x16_3 ∧ Aside0 (impl_ClashFirst.j1 kq l0 l1 x6_1 x16_3 = some (r1, r2, r3)) ∧ Aside0 (kq ≤ k1) ∧ Aside0 (wc.heap[gb913]? = some (.cells #[.string x914000_1, .string x914001_1] 46 (0, 0))) ∧ Aside0 (Below w.heap.size w wc))
   case first =>
    have H := HC4.out
    clear HC4
    by_cases c5 : x6_1 < (l0.length : Int)
    ·rw [if_pos c5] at H
     have c5b0 := decide_eq_true c5
     clear c5
     (first | rw [c5b0] | (simp only [i64_w, i32_w]; rw [c5b0]) | skip)
     have H' := Aside0.mk H
     clear H
     go_wp2
     go_meet
     case rel => exact ⟨_, (decide (x6_1 < (l1.length : Int))), rl_, H', ⟨by have := HK1.out; first | omega | exact Nat.le_refl _⟩, ⟨blkU_ BK913.out⟩, ⟨bel_⟩⟩
    ·rw [if_neg c5] at H
     have c5b0 := decide_eq_false c5
     clear c5
     (first | rw [c5b0] | (simp only [i64_w, i32_w]; rw [c5b0]) | skip)
     have H' := Aside0.mk H
     clear H
     go_wp2
     go_meet
     case rel => exact ⟨_, (false), rl_, H', ⟨by have := HK1.out; first | omega | exact Nat.le_refl _⟩, ⟨blkU_ BK913.out⟩, ⟨bel_⟩⟩
   case rest =>
    clear HC4
    (try clear c1); (try clear c5); (try clear c5b0)
    obtain ⟨kq, x16_3, rfl, HA, HJ3, BK913, HB⟩ := hcut
    cases kq with
    | zero => exact absurd HA.out (by simp [impl_ClashFirst.j1])
    | succ kj3 =>
     have H := HA.out
     clear HA
     simp only [impl_ClashFirst.j1] at H
     by_cases c6 : x16_3 = true
     ·subst c6
      rw [if_pos rfl] at H
      by_cases c7 : 0 ≤ x6_1
      ·rw [if_pos c7] at H
       have c7b0 := decide_eq_true c7
       clear c7
       by_cases c8 : x6_1 < (l0.length : Int)
       ·rw [if_pos c8] at H
        have c8b0 := decide_eq_true c8
        clear c8
        by_cases c9 : x6_1 < (l1.length : Int)
        ·rw [if_pos c9] at H
         have c9b0 := decide_eq_true c9
         clear c9
         by_cases c10 : (rdOf ByteArray.empty l0 x6_1).toList = (rdOf ByteArray.empty l1 x6_1).toList
         ·rw [if_pos c10] at H
          have c10b0 := beq_iff_eq.mpr c10
          have c10b1 := bne_eq_false_iff_eq.mpr c10
          clear c10
          have H' := Aside0.mk H
          clear H
          try go_wp2
          replace BK913 := a_ (blk_drew BK913.out)
          replace HB := a_ (below_drew1 HB.out)
          have p914 : 0 ≤ (x6_1 : Int) := ofd_
          have q914 : x6_1 < (l0.length : Int) := ofd_
          obtain ⟨ad914, e914, hx914_0⟩ := Kd.at_string HR0.out x6_1 p914 q914
          have hw914_0 := hx914_0
          cases e914
          replace hx914_0 := pc_ HB.out hx914_0
          replace p914 := eq_true p914
          replace q914 := eq_true q914
          have p915 : 0 ≤ (x6_1 : Int) := ofd_
          have q915 : x6_1 < (l1.length : Int) := ofd_
          obtain ⟨ad915, e915, hx915_0⟩ := Kd.at_string HR1.out x6_1 p915 q915
          have hw915_0 := hx915_0
          cases e915
          replace hx915_0 := pc_ HB.out hx915_0
          replace p915 := eq_true p915
          replace q915 := eq_true q915
          refine start_ (n := 9) (S := fun w' => w'.cell? (ad914.add (x6_1).toNat) = some (.string (rdOf ByteArray.empty l0 x6_1)) ∧ w'.cell? (ad915.add (x6_1).toNat) = some (.string (rdOf ByteArray.empty l1 x6_1))) (ds := []) #[false, false, false, false, false, false, false, false, false] (by kernel_rfl) rfl rfl ⟨(pc_ HB.out hw914_0), (pc_ HB.out hw915_0)⟩ (fun hHeld => ?_); refine with_tabW impl_ClashFirst.tab4 impl_ClashFirst.bits4 (fun HT HW_ => ?_)
          generalize wc.drew = w11 at BK913 HB hx914_0 hx915_0 hHeld ⊢
          refine pP_ 0 (some 19) (b_ 9 1) HT ?_
          refine pP_ 1 (some 20) (b_ 9 3) HT ?_
          refine pP_ 2 (some 21) (b_ 9 7) HT ?_
          refine pP_ 4 (some 23) (b_ 9 23) HT ?_
          refine pP_ 5 (some 24) (b_ 9 55) HT ?_
          refine pP_ 6 (some 25) (b_ 9 119) HT ?_
          refine takeP_ 3 (some 22) (b_ 9 127) HT HW_ hHeld ?_
          refine takeP_ 7 (some 26) (b_ 9 255) HT HW_ hHeld ?_
          refine pP_ 8 (some 27) (b_ 9 511) HT ?_
          refine done_ (done_of HT.out (by kernel_rfl)) ?_
          try go_wp2
          go_roundg kj3
          case measure => have := HK1.out; have := HJ3.out; omega
          case rel => exact ⟨(wrap64 (x6_1 + 1)), (x914000_1), (x914001_1), rl_, H', ⟨by have := HK1.out; have := HJ3.out; omega⟩, ⟨blkU_ BK913.out⟩, ⟨bel_⟩⟩
         ·rw [if_neg c10] at H
          have c10b0 := beq_eq_false_iff_ne.mpr c10
          have c10b1 := bne_iff_ne.mpr c10
          simp only [Option.some.injEq, Prod.mk.injEq] at H
          obtain ⟨rfl, rfl, rfl⟩ := H
          try go_wp2
          replace BK913 := a_ (blk_drew BK913.out)
          replace HB := a_ (below_drew1 HB.out)
          have p914 : 0 ≤ (x6_1 : Int) := ofd_
          have q914 : x6_1 < (l0.length : Int) := ofd_
          obtain ⟨ad914, e914, hx914_0⟩ := Kd.at_string HR0.out x6_1 p914 q914
          have hw914_0 := hx914_0
          cases e914
          replace hx914_0 := pc_ HB.out hx914_0
          replace p914 := eq_true p914
          replace q914 := eq_true q914
          have p915 : 0 ≤ (x6_1 : Int) := ofd_
          have q915 : x6_1 < (l1.length : Int) := ofd_
          obtain ⟨ad915, e915, hx915_0⟩ := Kd.at_string HR1.out x6_1 p915 q915
          have hw915_0 := hx915_0
          cases e915
          replace hx915_0 := pc_ HB.out hx915_0
          replace p915 := eq_true p915
          replace q915 := eq_true q915
          refine start_ (n := 9) (S := fun w' => w'.cell? (ad914.add (x6_1).toNat) = some (.string (rdOf ByteArray.empty l0 x6_1)) ∧ w'.cell? (ad915.add (x6_1).toNat) = some (.string (rdOf ByteArray.empty l1 x6_1))) (ds := []) #[false, false, false, false, false, false, false, false, false] (by kernel_rfl) rfl rfl ⟨(pc_ HB.out hw914_0), (pc_ HB.out hw915_0)⟩ (fun hHeld => ?_); refine with_tabW impl_ClashFirst.tab4 impl_ClashFirst.bits4 (fun HT HW_ => ?_)
          generalize wc.drew = w12 at BK913 HB hx914_0 hx915_0 hHeld ⊢
          refine pP_ 0 (some 19) (b_ 9 1) HT ?_
          refine pP_ 1 (some 20) (b_ 9 3) HT ?_
          refine pP_ 2 (some 21) (b_ 9 7) HT ?_
          refine pP_ 4 (some 23) (b_ 9 23) HT ?_
          refine pP_ 5 (some 24) (b_ 9 55) HT ?_
          refine pP_ 6 (some 25) (b_ 9 119) HT ?_
          refine takeP_ 3 (some 22) (b_ 9 127) HT HW_ hHeld ?_
          refine takeP_ 7 (some 26) (b_ 9 255) HT HW_ hHeld ?_
          refine pP_ 8 (some 27) (b_ 9 511) HT ?_
          refine done_ (done_of HT.out (by kernel_rfl)) ?_
          try go_wp2
          replace BK913 := a_ (blk_drew BK913.out)
          replace HB := a_ (below_drew1 HB.out)
          have p916 : 0 ≤ (x6_1 : Int) := ofd_
          have q916 : x6_1 < (l0.length : Int) := ofd_
          obtain ⟨ad916, e916, hx916_0⟩ := Kd.at_string HR0.out x6_1 p916 q916
          have hw916_0 := hx916_0
          obtain rfl : ad914 = ad916 := (by injection e916)
          replace hx916_0 := pc_ HB.out hx916_0
          replace p916 := eq_true p916
          replace q916 := eq_true q916
          have p917 : 0 ≤ (x6_1 : Int) := ofd_
          have q917 : x6_1 < (l1.length : Int) := ofd_
          obtain ⟨ad917, e917, hx917_0⟩ := Kd.at_string HR1.out x6_1 p917 q917
          have hw917_0 := hx917_0
          obtain rfl : ad915 = ad917 := (by injection e917)
          replace hx917_0 := pc_ HB.out hx917_0
          replace p917 := eq_true p917
          replace q917 := eq_true q917
          refine start_ (n := 11) (S := fun w' => w'.cell? (ad914.add (x6_1).toNat) = some (.string (rdOf ByteArray.empty l0 x6_1)) ∧ w'.cell? (ad915.add (x6_1).toNat) = some (.string (rdOf ByteArray.empty l1 x6_1))) (ds := []) #[false, false, false, false, false, false, false, false, false, false, false] (by kernel_rfl) rfl rfl ⟨(pc_ HB.out hw916_0), (pc_ HB.out hw917_0)⟩ (fun hHeld => ?_); refine with_tabW impl_ClashFirst.tab5 impl_ClashFirst.bits5 (fun HT HW_ => ?_)
          generalize w12.drew = w13 at BK913 HB hx916_0 hx917_0 hHeld ⊢
          refine pP_ 0 (some 28) (b_ 11 1) HT ?_
          refine pP_ 1 (some 29) (b_ 11 3) HT ?_
          refine pP_ 2 (some 30) (b_ 11 7) HT ?_
          refine pP_ 4 (some 32) (b_ 11 23) HT ?_
          refine pP_ 5 (some 33) (b_ 11 55) HT ?_
          refine pP_ 6 (some 34) (b_ 11 119) HT ?_
          refine takeP_ 3 (some 31) (b_ 11 127) HT HW_ hHeld ?_
          refine takeP_ 7 (some 35) (b_ 11 255) HT HW_ hHeld ?_
          refine pP_ 8 (some 36) (b_ 11 511) HT ?_
          refine oneP_ 9 none (b_ 11 1023) HT (fun K hK => ?_)
          have hs14 : w13.cell? ⟨gb913, 0, none⟩ = some (.string x914000_1) := (blk_cell BK913.out 0).trans rfl
          have hfs14 := blk_frozen BK913.out 0
          have hs15 : w13.cell? ⟨gb913, 1, none⟩ = some (.string x914001_1) := (blk_cell BK913.out 1).trans rfl
          have hfs15 := blk_frozen BK913.out 1
          refine skip_ (w1 := ?_) (by rfl) rfl ?_ ?_
          rotate_left
          ·go_simp
           rfl
          refine hK.out _ _ ⟨(cf2_ (nw_ hw916_0 GW913.out) hHeld.1), (cf2_ (nw_ hw917_0 GW913.out) hHeld.2)⟩ (fun hHeld => ?_)
          clear hK K
          refine pP_ 10 (some 5) (b_ 11 2047) HT ?_
          refine done_ (done_of HT.out (by kernel_rfl)) ?_
          try go_wp2
          refine bodyPost_ret (results_ct rfl _ _ gb913 46 #[.string (rdOf ByteArray.empty l0 x6_1), .string (rdOf ByteArray.empty l1 x6_1)] (0, 0) _ rfl (blkF_ BK913.out) Try.underlying46 rfl (by kernel_rfl)) rfl ?_
          exact ⟨rfl_, bel_⟩
        ·rw [if_neg c9] at H
         exact absurd H (by simp)
       ·rw [if_neg c8] at H
        exact absurd H (by simp)
      ·rw [if_neg c7] at H
       exact absurd H (by simp)
     ·replace c6 := Bool.eq_false_iff.mpr c6
      subst c6
      rw [if_neg (show ¬ (false = true) by decide)] at H
      simp only [Option.some.injEq, Prod.mk.injEq] at H
      obtain ⟨rfl, rfl, rfl⟩ := H
      obtain ⟨z16_0, z16_1, f16_0, f16_1⟩ := cz2_ BK913.out
      go_wp2
      refine bodyPost_ret (results_ct rfl _ _ gb913 46 #[.string (⟨#[]⟩ : ByteArray), .string (⟨#[]⟩ : ByteArray)] (0, 0) _ rfl (blkF_ BK913.out) Try.underlying46 rfl (by kernel_rfl)) rfl ?_
      exact ⟨rfl_, bel_⟩
end
section
def laws_eqGrowth.f (k : Nat) (a0_0 a0_1 : Int) (a0_2 a0_3 a0_4 : Int) (l0_5 : List (S29)) (a1_0 a1_1 : Int) (a1_2 a1_3 a1_4 : Int) (l1_5 : List (S29)) : Option (Bool) := (laws_eqPoint.f a0_0 a0_1 a0_2 a0_3 a0_4 a1_0 a1_1 a1_2 a1_3 a1_4).bind fun t511 => (if t511 = true then ((laws_eqDigestS.f k l0_5 l1_5).bind fun t512 => (if t512 = true then (some true) else (some false))) else (some false))
theorem laws_eqGrowth.calls (k : Nat) (a0_0 a0_1 : Int) (a0_2 a0_3 a0_4 : Int) (A0_5 : Option Addr) (c0_5 : Nat) (l0_5 : List (S29)) (a1_0 a1_1 : Int) (a1_2 a1_3 a1_4 : Int) (A1_5 : Option Addr) (c1_5 : Nat) (l1_5 : List (S29)) (r : Bool) (w : World) (hr0_5 : Kd.C k29 w A0_5 l0_5.length l0_5) (hc0_5 : l0_5.length ≤ c0_5) (hr1_5 : Kd.C k29 w A1_5 l1_5.length l1_5) (hc1_5 : l1_5.length ≤ c1_5) (h : laws_eqGrowth.f k a0_0 a0_1 a0_2 a0_3 a0_4 l0_5 a1_0 a1_1 a1_2 a1_3 a1_4 l1_5 = some r) :
  Calls Try.prog 24 #[.agg #[.int .i64 a0_0, .int .u64 a0_1, .int .u64 a0_2, .int .u64 a0_3, .int .u64 a0_4, .slice A0_5 l0_5.length c0_5], .agg #[.int .i64 a1_0, .int .u64 a1_1, .int .u64 a1_2, .int .u64 a1_3, .int .u64 a1_4, .slice A1_5 l1_5.length c1_5]] w fun e w' => e = .returned (.bool r) ∧ Below w.heap.size w w' := by
 have hu51 := Try.underlying51
 have hu31 := Try.underlying31
 have HR0_5 := Aside0.mk hr0_5
 have HC0_5 := Aside0.mk hc0_5
 clear hr0_5 hc0_5
 have HR1_5 := Aside0.mk hr1_5
 have HC1_5 := Aside0.mk hc1_5
 clear hr1_5 hc1_5
 have HB := a_ (Below.refl w.heap.size w)
 have H := h
 unfold laws_eqGrowth.f at H
 clear h
 obtain ⟨t511, A3, H⟩ := bnd_ H
 by_cases c4 : t511 = true
 ·subst c4
  rw [if_pos rfl] at H
  obtain ⟨t512, A5, H⟩ := bnd_ H
  by_cases c6 : t512 = true
  ·subst c6
   rw [if_pos rfl] at H
   obtain rfl := Option.some.inj H
   go_enter Try.func24, Try.ntmps24
   go_wp2_with (first | ((with_reducible refine gate_dst (N := 2) rfl ?_); refine boxE_ (cs := #[.int .i64 a0_0, .int .u64 a0_1, .int .u64 a0_2, .int .u64 a0_3, .int .u64 a0_4, .slice A0_5 l0_5.length c0_5]) (t := 51) ?_; intro gb509 hg w7 hbox hb; have BK509 := a_ (hbox); have GW509 := sizeB_ hg; replace HB := stepB_ hb; clear hb hbox hg) | ((with_reducible refine gate_dst (N := 3) rfl ?_); refine boxE_ (cs := #[.int .i64 a1_0, .int .u64 a1_1, .int .u64 a1_2, .int .u64 a1_3, .int .u64 a1_4, .slice A1_5 l1_5.length c1_5]) (t := 51) ?_; intro gb510 hg w8 hbox hb; have BK510 := a_ (hbox); have GW510 := sizeB_ hg; replace HB := stepB_ hb; obtain ⟨NB509_510, NB510_509⟩ := ne2_ BK509.out hg; replace BK509 := bb_ BK509.out hb; clear hb hbox hg; have hnb9 := NB509_510.out; have hnc9 := NB510_509.out; obtain ⟨z10_0, z10_1, z10_2, z10_3, z10_4, z10_5, f10_0, f10_1, f10_2, f10_3, f10_4, f10_5⟩ := cz6_ BK509.out; obtain ⟨z11_0, z11_1, z11_2, z11_3, z11_4, z11_5, f11_0, f11_1, f11_2, f11_3, f11_4, f11_5⟩ := cz6_ BK510.out) | (refine gcL_ 15 (some 9) Try.func15 #[.agg #[.int .i64 a0_0, .int .u64 a0_1, .int .u64 a0_2, .int .u64 a0_3, .int .u64 a0_4], .agg #[.int .i64 a1_0, .int .u64 a1_1, .int .u64 a1_2, .int .u64 a1_3, .int .u64 a1_4]] ?_; (with_reducible refine (laws_eqPoint.calls a0_0 a0_1 a0_2 a0_3 a0_4 a1_0 a1_1 a1_2 a1_3 a1_4 true _ A3.out).mono ?_); rintro e w12 ⟨rfl, hb⟩; refine ⟨_, rfl, ?_⟩; replace BK509 := bb_ BK509.out hb; replace BK510 := bb_ BK510.out hb; replace HB := stepB_ hb; (try clear hb); obtain ⟨z13_0, z13_1, z13_2, z13_3, z13_4, z13_5, f13_0, f13_1, f13_2, f13_3, f13_4, f13_5⟩ := cz6_ BK509.out; obtain ⟨z14_0, z14_1, z14_2, z14_3, z14_4, z14_5, f14_0, f14_1, f14_2, f14_3, f14_4, f14_5⟩ := cz6_ BK510.out) | (refine gcL_ 25 (some 15) Try.func25 #[.slice A0_5 l0_5.length c0_5, .slice A1_5 l1_5.length c1_5] ?_; (with_reducible refine (laws_eqDigestS.calls k _ _ l0_5 _ _ l1_5 true _ ?side1 ?side2 ?side3 ?side4 A5.out).mono ?_); (case side1 => exact cU_ (Kd.C_below HR0_5.out HB.out)); (case side2 => exact HC0_5.out); (case side3 => exact cU_ (Kd.C_below HR1_5.out HB.out)); (case side4 => exact HC1_5.out); rintro e w15 ⟨rfl, hb⟩; refine ⟨_, rfl, ?_⟩; replace BK509 := bb_ BK509.out hb; replace BK510 := bb_ BK510.out hb; replace HB := stepB_ hb; (try clear hb)))
   go_ret
   exact ⟨rfl_, bel_⟩
  ·replace c6 := Bool.eq_false_iff.mpr c6
   subst c6
   rw [if_neg (show ¬ (false = true) by decide)] at H
   obtain rfl := Option.some.inj H
   go_enter Try.func24, Try.ntmps24
   go_wp2_with (first | ((with_reducible refine gate_dst (N := 2) rfl ?_); refine boxE_ (cs := #[.int .i64 a0_0, .int .u64 a0_1, .int .u64 a0_2, .int .u64 a0_3, .int .u64 a0_4, .slice A0_5 l0_5.length c0_5]) (t := 51) ?_; intro gb509 hg w16 hbox hb; have BK509 := a_ (hbox); have GW509 := sizeB_ hg; replace HB := stepB_ hb; clear hb hbox hg) | ((with_reducible refine gate_dst (N := 3) rfl ?_); refine boxE_ (cs := #[.int .i64 a1_0, .int .u64 a1_1, .int .u64 a1_2, .int .u64 a1_3, .int .u64 a1_4, .slice A1_5 l1_5.length c1_5]) (t := 51) ?_; intro gb510 hg w17 hbox hb; have BK510 := a_ (hbox); have GW510 := sizeB_ hg; replace HB := stepB_ hb; obtain ⟨NB509_510, NB510_509⟩ := ne2_ BK509.out hg; replace BK509 := bb_ BK509.out hb; clear hb hbox hg; have hnb18 := NB509_510.out; have hnc18 := NB510_509.out; obtain ⟨z19_0, z19_1, z19_2, z19_3, z19_4, z19_5, f19_0, f19_1, f19_2, f19_3, f19_4, f19_5⟩ := cz6_ BK509.out; obtain ⟨z20_0, z20_1, z20_2, z20_3, z20_4, z20_5, f20_0, f20_1, f20_2, f20_3, f20_4, f20_5⟩ := cz6_ BK510.out) | (refine gcL_ 15 (some 9) Try.func15 #[.agg #[.int .i64 a0_0, .int .u64 a0_1, .int .u64 a0_2, .int .u64 a0_3, .int .u64 a0_4], .agg #[.int .i64 a1_0, .int .u64 a1_1, .int .u64 a1_2, .int .u64 a1_3, .int .u64 a1_4]] ?_; (with_reducible refine (laws_eqPoint.calls a0_0 a0_1 a0_2 a0_3 a0_4 a1_0 a1_1 a1_2 a1_3 a1_4 true _ A3.out).mono ?_); rintro e w21 ⟨rfl, hb⟩; refine ⟨_, rfl, ?_⟩; replace BK509 := bb_ BK509.out hb; replace BK510 := bb_ BK510.out hb; replace HB := stepB_ hb; (try clear hb); obtain ⟨z22_0, z22_1, z22_2, z22_3, z22_4, z22_5, f22_0, f22_1, f22_2, f22_3, f22_4, f22_5⟩ := cz6_ BK509.out; obtain ⟨z23_0, z23_1, z23_2, z23_3, z23_4, z23_5, f23_0, f23_1, f23_2, f23_3, f23_4, f23_5⟩ := cz6_ BK510.out) | (refine gcL_ 25 (some 15) Try.func25 #[.slice A0_5 l0_5.length c0_5, .slice A1_5 l1_5.length c1_5] ?_; (with_reducible refine (laws_eqDigestS.calls k _ _ l0_5 _ _ l1_5 false _ ?side1 ?side2 ?side3 ?side4 A5.out).mono ?_); (case side1 => exact cU_ (Kd.C_below HR0_5.out HB.out)); (case side2 => exact HC0_5.out); (case side3 => exact cU_ (Kd.C_below HR1_5.out HB.out)); (case side4 => exact HC1_5.out); rintro e w24 ⟨rfl, hb⟩; refine ⟨_, rfl, ?_⟩; replace BK509 := bb_ BK509.out hb; replace BK510 := bb_ BK510.out hb; replace HB := stepB_ hb; (try clear hb)))
   go_ret
   exact ⟨rfl_, bel_⟩
 ·replace c4 := Bool.eq_false_iff.mpr c4
  subst c4
  rw [if_neg (show ¬ (false = true) by decide)] at H
  obtain rfl := Option.some.inj H
  go_enter Try.func24, Try.ntmps24
  go_wp2_with (first | ((with_reducible refine gate_dst (N := 2) rfl ?_); refine boxE_ (cs := #[.int .i64 a0_0, .int .u64 a0_1, .int .u64 a0_2, .int .u64 a0_3, .int .u64 a0_4, .slice A0_5 l0_5.length c0_5]) (t := 51) ?_; intro gb509 hg w25 hbox hb; have BK509 := a_ (hbox); have GW509 := sizeB_ hg; replace HB := stepB_ hb; clear hb hbox hg) | ((with_reducible refine gate_dst (N := 3) rfl ?_); refine boxE_ (cs := #[.int .i64 a1_0, .int .u64 a1_1, .int .u64 a1_2, .int .u64 a1_3, .int .u64 a1_4, .slice A1_5 l1_5.length c1_5]) (t := 51) ?_; intro gb510 hg w26 hbox hb; have BK510 := a_ (hbox); have GW510 := sizeB_ hg; replace HB := stepB_ hb; obtain ⟨NB509_510, NB510_509⟩ := ne2_ BK509.out hg; replace BK509 := bb_ BK509.out hb; clear hb hbox hg; have hnb27 := NB509_510.out; have hnc27 := NB510_509.out; obtain ⟨z28_0, z28_1, z28_2, z28_3, z28_4, z28_5, f28_0, f28_1, f28_2, f28_3, f28_4, f28_5⟩ := cz6_ BK509.out; obtain ⟨z29_0, z29_1, z29_2, z29_3, z29_4, z29_5, f29_0, f29_1, f29_2, f29_3, f29_4, f29_5⟩ := cz6_ BK510.out) | (refine gcL_ 15 (some 9) Try.func15 #[.agg #[.int .i64 a0_0, .int .u64 a0_1, .int .u64 a0_2, .int .u64 a0_3, .int .u64 a0_4], .agg #[.int .i64 a1_0, .int .u64 a1_1, .int .u64 a1_2, .int .u64 a1_3, .int .u64 a1_4]] ?_; (with_reducible refine (laws_eqPoint.calls a0_0 a0_1 a0_2 a0_3 a0_4 a1_0 a1_1 a1_2 a1_3 a1_4 false _ A3.out).mono ?_); rintro e w30 ⟨rfl, hb⟩; refine ⟨_, rfl, ?_⟩; replace BK509 := bb_ BK509.out hb; replace BK510 := bb_ BK510.out hb; replace HB := stepB_ hb; (try clear hb)))
  go_ret
  exact ⟨rfl_, bel_⟩
end
section
def spec_l3PeaksAhead.l0 : Nat → Int → Int → Int → Int → Option (Int)
 | 0, _, _, _, _ => none
 | k + 1, x0, x1, x5, x6 => if x6 < x0 then (if x6 < x1 then ((spec_l2Half.f k (wrap64 (x0 - x6))).bind fun t185 => (spec_l3PeaksAhead.l0 k x0 x1 (wrap64 (x5 + 1)) (wrap64 (x6 + t185)))) else (some x5)) else (some x5)
def spec_l3PeaksAhead.f (k : Nat) (a0 a1 : Int) : Option (Int) := spec_l3PeaksAhead.l0 k a0 a1 0 0
theorem spec_l3PeaksAhead.calls (k : Nat) (a0 a1 r : Int) (w : World) (h : spec_l3PeaksAhead.f k a0 a1 = some r) :
  Calls Try.prog 120 #[.int .i64 a0, .int .i64 a1] w fun e w' => e = .returned (.int .i64 r) ∧ Drawn0 w w' := by
 have H := h
 unfold spec_l3PeaksAhead.f at H
 clear h
 have H' := Aside0.mk H
 clear H
 go_enter Try.func120, Try.ntmps120
 go_wp2
 go_loopg [5, 6] k (fun kq v5 v6 w' => ∃ (x5_1 x6_1 : Int), v5 = .int .i64 x5_1 ∧ v6 = .int .i64 x6_1 ∧ Aside0 (spec_l3PeaksAhead.l0 kq a0 a1 x5_1 x6_1 = some r) ∧ Aside0 (kq ≤ k) ∧ Drawn0 w w')
 case atStart => exact ⟨(0), (0), rl_, rl_, H', ⟨Nat.le_refl _⟩, by repeat (first | exact Drawn0.refl _ | apply Drawn0.step)⟩
 case round =>
  clear H'
  obtain ⟨x5_1, x6_1, rfl, rfl, HA, HK1, ⟨m1, rfl⟩⟩ := hrel
  cases gk with
  | zero => exact absurd HA.out (by simp [spec_l3PeaksAhead.l0])
  | succ k1 =>
   have H := HA.out
   clear HA
   simp only [spec_l3PeaksAhead.l0] at H
   by_cases c3 : x6_1 < a0
   ·rw [if_pos c3] at H
    have c3b0 := decide_eq_true c3
    clear c3
    by_cases c4 : x6_1 < a1
    ·rw [if_pos c4] at H
     have c4b0 := decide_eq_true c4
     clear c4
     obtain ⟨t185, A5, H⟩ := bnd_ H
     have H' := Aside0.mk H
     clear H
     go_wp2_with (first | (refine gcL_ 93 (some 19) Try.func93 #[.int .i64 (wrap64 (a0 - x6_1))] ?_; (with_reducible refine (spec_l2Half.calls k1 (wrap64 (a0 - x6_1)) t185 _ A5.out).mono ?_); rintro e w' ⟨rfl, ⟨nd, rfl⟩⟩; refine ⟨_, rfl, ?_⟩))
     go_roundg k1
     case measure => have := HK1.out; omega
     case rel => exact ⟨(wrap64 (x5_1 + 1)), (wrap64 (x6_1 + t185)), rl_, rl_, H', ⟨by have := HK1.out; omega⟩, by repeat (first | exact Drawn0.refl _ | apply Drawn0.step)⟩
    ·rw [if_neg c4] at H
     have c4b0 := decide_eq_false c4
     clear c4
     obtain rfl := Option.some.inj H
     go_wp2
     go_ret
     exact ⟨rl_, dr_⟩
   ·rw [if_neg c3] at H
    have c3b0 := decide_eq_false c3
    clear c3
    obtain rfl := Option.some.inj H
    go_wp2
    go_ret
    exact ⟨rl_, dr_⟩
end
end
end Go.Proofs.Ytflckegggopdnaa.B
