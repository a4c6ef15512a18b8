/- What the Go functions of these names do; condition: .f gives an answer. -/
import Derived.Test.YtflckegggopdnaaZCHP0
namespace Go.Proofs.Ytflckegggopdnaa.B
open Go.RowKit Go.Proofs.YtflckegggopdnaaW.PrintWords Go.Proofs.YtflckegggopdnaaW.PrintLast Go.Proofs.YtflckegggopdnaaW.PrintMore
attribute [local go_sem] max2_int min2_int max_two min_two max_three min_three max_four min_four
set_option linter.unusedVariables false
set_option maxHeartbeats 8000000
set_option maxRecDepth 100000
set_option linter.unusedSimpArgs false
section
def laws_szDigestS.f (l0 : List (S24)) (a1 : Int) : Option (Int) := if (wrap64 (a1 - (l0.length : Int))) < 0 then (some (-1)) else (some (wrap64 (a1 - (l0.length : Int))))
theorem laws_szDigestS.calls (A0 : Option Addr) (c0 : Nat) (l0 : List (S24)) (a1 r : Int) (w : World) (hr0 : Kd.C k24 w A0 l0.length l0) (hc0 : l0.length ≤ c0) (h : laws_szDigestS.f l0 a1 = some r) :
  Calls Try.prog 18 #[.slice A0 l0.length c0, .int .i64 a1] w fun e w' => e = .returned (.int .i64 r) ∧ Drawn0 w w' := by
 have HR0 := Aside0.mk hr0
 have HC0 := Aside0.mk hc0
 clear hr0 hc0
 have H := h
 unfold laws_szDigestS.f at H
 clear h
 by_cases c3 : (wrap64 (a1 - (l0.length : Int))) < 0
 ·rw [if_pos c3] at H
  have c3b0 := decide_eq_true c3
  clear c3
  obtain rfl := Option.some.inj H
  go_enter Try.func18, Try.ntmps18
  go_wp2
  go_ret
  exact ⟨rl_, dr_⟩
 ·rw [if_neg c3] at H
  have c3b0 := decide_eq_false c3
  clear c3
  obtain rfl := Option.some.inj H
  go_enter Try.func18, Try.ntmps18
  go_wp2
  go_ret
  exact ⟨rl_, dr_⟩
end
section
def laws_toDigest.f (a0_0 a0_1 : Int) (a0_2 a0_3 : Int) : Option (Int × Int × Int × Int) := some (a0_0, a0_1, a0_2, a0_3)
theorem laws_toDigest.calls (a0_0 a0_1 : Int) (a0_2 a0_3 : Int) (r1 r2 : Int) (r3 r4 : Int) (w : World) (h : laws_toDigest.f a0_0 a0_1 a0_2 a0_3 = some (r1, r2, r3, r4)) :
  Calls Try.prog 44 #[.agg #[.int .u64 a0_0, .int .u64 a0_1, .int .u64 a0_2, .int .u64 a0_3]] w fun e w' => e = .returned (.agg #[.int .u64 r1, .int .u64 r2, .int .u64 r3, .int .u64 r4]) ∧ Below w.heap.size w w' := by
 have hu24 := Try.underlying24
 have hu29 := Try.underlying29
 have HB := a_ (Below.refl w.heap.size w)
 have H := h
 unfold laws_toDigest.f at H
 clear h
 simp only [Option.some.injEq, Prod.mk.injEq] at H
 obtain ⟨rfl, rfl, rfl, rfl⟩ := H
 go_enter Try.func44, Try.ntmps44
 go_wp2_with (first | ((with_reducible refine gate_dst (N := 1) rfl ?_); refine boxE_ (cs := #[.int .u64 a0_0, .int .u64 a0_1, .int .u64 a0_2, .int .u64 a0_3]) (t := 24) ?_; intro gb233 hg w2 hbox hb; have BK233 := a_ (hbox); have GW233 := sizeB_ hg; replace HB := stepB_ hb; clear hb hbox hg) | ((with_reducible refine gate_dst (N := 2) rfl ?_); refine boxE_ (cs := #[.int .u64 0, .int .u64 0, .int .u64 0, .int .u64 0]) (t := 29) ?_; intro gb234 hg w3 hbox hb; have BK234 := a_ (hbox); have GW234 := sizeB_ hg; replace HB := stepB_ hb; obtain ⟨NB233_234, NB234_233⟩ := ne2_ BK233.out hg; replace BK233 := bb_ BK233.out hb; clear hb hbox hg) | ((with_reducible refine gate_dst (N := 3) rfl ?_); refine boxE_ (cs := #[.int .u64 0, .int .u64 0, .int .u64 0, .int .u64 0]) (t := 29) ?_; intro gb235 hg w4 hbox hb; have BK235 := a_ (hbox); have GW235 := sizeB_ hg; replace HB := stepB_ hb; obtain ⟨NB233_235, NB235_233⟩ := ne2_ BK233.out hg; replace BK233 := bb_ BK233.out hb; obtain ⟨NB234_235, NB235_234⟩ := ne2_ BK234.out hg; replace BK234 := bb_ BK234.out hb; clear hb hbox hg; have hnb5 := NB233_234.out; have hnc5 := NB234_233.out; have hnb6 := NB233_235.out; have hnc6 := NB235_233.out; obtain ⟨z7_0, z7_1, z7_2, z7_3, f7_0, f7_1, f7_2, f7_3⟩ := cz4_ BK233.out; have hnb8 := NB235_234.out; have hnc8 := NB234_235.out; obtain ⟨z9_0, z9_1, z9_2, z9_3, f9_0, f9_1, f9_2, f9_3⟩ := cz4_ BK235.out; obtain ⟨z10_0, z10_1, z10_2, z10_3, f10_0, f10_1, f10_2, f10_3⟩ := cz4_ BK234.out))
 refine bodyPost_ret (results_cell_row rfl _ _ gb234 29 #[.int .u64 a0_0, .int .u64 a0_1, .int .u64 a0_2, .int .u64 a0_3] (0, 0) _ rfl (blkF_ BK234.out) Try.underlying29 rfl (by kernel_rfl)) rfl ?_
 exact ⟨rfl_, bel_⟩
end
section
def laws_toDigestS.l0 : Nat → List (S24) → List (S29) → Int → Option ((List (S29)))
 | 0, _, _, _ => none
 | k + 1, x0, x3, x4 => if x4 < (x0.length : Int) then (if 0 ≤ x4 then ((laws_toDigest.f ((rd_T24 x0 x4).f0) ((rd_T24 x0 x4).f1) ((rd_T24 x0 x4).f2) ((rd_T24 x0 x4).f3)).bind fun bt247 => (if x4 < (x3.length : Int) then (laws_toDigestS.l0 k x0 (x3.set (x4 : Int).toNat (⟨bt247.1, bt247.2.1, bt247.2.2.1, bt247.2.2.2⟩ : S29)) (wrap64 (x4 + 1))) else (none))) else (none)) else (some x3)
def laws_toDigestS.f (k : Nat) (l0 : List (S24)) : Option ((List (S29))) := if 0 ≤ (l0.length : Int) then (if ((l0.length : Int) : Int).toNat ≤ 8796093022208 then (laws_toDigestS.l0 k l0 (List.replicate ((l0.length : Int) : Int).toNat z29) 0) else (none)) else (none)
theorem laws_toDigestS.calls (k : Nat) (A0 : Option Addr) (c0 : Nat) (l0 : List (S24)) (r : List (S29)) (w : World) (hr0 : Kd.C k24 w A0 l0.length l0) (hc0 : l0.length ≤ c0) (h : laws_toDigestS.f k l0 = some r) :
  Calls Try.prog 21 #[.slice A0 l0.length c0] w fun e w' => ∃ v0_ : Value, e = .returned (v0_) ∧ Kd.R k29 29 w' w.heap.size (fun _ => True) v0_ r ∧ Below w.heap.size w w' := by
 have hu24 := Try.underlying24
 have hu29 := Try.underlying29
 have HR0 := Aside0.mk hr0
 have HC0 := Aside0.mk hc0
 clear hr0 hc0
 have HB := a_ (Below.refl w.heap.size w)
 have H := h
 unfold laws_toDigestS.f at H
 clear h
 by_cases c2 : 0 ≤ (l0.length : Int)
 ·rw [if_pos c2] at H
  have c2b0 := eq_true c2
  have c2b1 := decide_eq_true c2
  clear c2
  by_cases c3 : ((l0.length : Int) : Int).toNat ≤ 8796093022208
  ·rw [if_pos c3] at H
   have c3b0 := eq_true c3
   have c3b1 := decide_eq_true c3
   clear c3
   obtain ⟨y243, hy243⟩ : ∃ y_ : List (S29), y_ = (List.replicate ((l0.length : Int) : Int).toNat z29) := ⟨_, rfl⟩
   replace H : (laws_toDigestS.l0 k l0 y243 0) = some r := rpl_ hy243 H
   have Ny243 := Aside0.mk hy243
   clear hy243
   have H' := Aside0.mk H
   clear H
   go_enter Try.func21, Try.ntmps21
   go_wp2_with (first | ((with_reducible refine gate_dst (N := 7) rfl ?_); refine Kd.R_make k29 _ 29 rfl (N := 7) rfl 49 _ _ rfl (l0.length : Int) rfl rfl Try.underlying49 (.agg #[(.int .u64 0), (.int .u64 0), (.int .u64 0), (.int .u64 0)]) 32 info29 rfl (by decide) (by omega) z29 (ok := fun _ => True) (okp := fun _ => True) (k29_mkM _ _ _ z29 ) (fun _ hk => hk) trivial (ofd_) (Nat.le_trans (Nat.mul_le_mul_right _ (ofd_ : (l0.length : Int).toNat ≤ 8796093022208)) (by omega)) (Below.refl _ _) (Nat.le_refl _) ?_; intro v244 w4 ho5 hb hg_ hnew_; clear hg_ hnew_; (first | rw [← Ny243.out] at ho5 | (simp only [Int.reduceToNat] at ho5; rw [← Ny243.out] at ho5)); have HO245 := a_ (Kd.R_lower ho5 (below_size bel_)); replace HB := stepB_ hb; clear hb ho5))
   go_loopg [4] k (fun kq v4 w' => ∃ (x3_1 : List (S29)) (x4_1 : Int), v4 = .int .i64 x4_1 ∧ Aside0 (laws_toDigestS.l0 kq l0 x3_1 x4_1 = some r) ∧ Aside0 (kq ≤ k) ∧ Aside0 (Kd.R k29 29 w' w.heap.size (fun _ => True) v244 x3_1) ∧ Aside0 (Below w.heap.size w w'))
   case atStart => exact ⟨(y243), (0), rl_, H', ⟨Nat.le_refl _⟩, ⟨kdU_ HO245.out⟩, ⟨bel_⟩⟩
   case round =>
    clear H'
    (try clear c2); (try clear c2b0); (try clear c2b1); (try clear c3); (try clear c3b0); (try clear c3b1)
    obtain ⟨x3_1, x4_1, rfl, HA, HK1, HO_3, HB⟩ := hrel
    cases gk with
    | zero => exact absurd HA.out (by simp [laws_toDigestS.l0])
    | succ k1 =>
     have H := HA.out
     clear HA
     simp only [laws_toDigestS.l0] at H
     by_cases c6 : x4_1 < (l0.length : Int)
     ·rw [if_pos c6] at H
      have c6b0 := decide_eq_true c6
      clear c6
      by_cases c7 : 0 ≤ x4_1
      ·rw [if_pos c7] at H
       have c7b0 := decide_eq_true c7
       clear c7
       obtain ⟨⟨t247, t248, t249, t250⟩, A8, H⟩ := bnd_ H
       dsimp only at H
       by_cases c9 : x4_1 < (x3_1.length : Int)
       ·rw [if_pos c9] at H
        have c9b0 := decide_eq_true c9
        clear c9
        obtain ⟨y251, hy251⟩ : ∃ y_ : List (S29), y_ = (x3_1.set (x4_1 : Int).toNat (⟨t247, t248, t249, t250⟩ : S29)) := ⟨_, rfl⟩
        replace H : (laws_toDigestS.l0 k1 l0 y251 (wrap64 (x4_1 + 1))) = some r := rpl_ hy251 H
        have Ny251 := Aside0.mk hy251
        clear hy251
        have H' := Aside0.mk H
        clear H
        have p246 : 0 ≤ (x4_1 : Int) := ofd_
        have q246 : x4_1 < (l0.length : Int) := ofd_
        obtain ⟨ad246, e246, hx246_0, hx246_1, hx246_2, hx246_3⟩ := at_T24 HR0.out x4_1 p246 q246
        cases e246
        replace hx246_0 := pc_ HB.out hx246_0
        replace hx246_1 := pc_ HB.out hx246_1
        replace hx246_2 := pc_ HB.out hx246_2
        replace hx246_3 := pc_ HB.out hx246_3
        replace p246 := eq_true p246
        replace q246 := eq_true q246
        go_wp2_with (first | (refine gcL_ 44 (some 20) Try.func44 #[.agg #[.int .u64 ((rd_T24 l0 x4_1).f0), .int .u64 ((rd_T24 l0 x4_1).f1), .int .u64 ((rd_T24 l0 x4_1).f2), .int .u64 ((rd_T24 l0 x4_1).f3)]] ?_; (with_reducible refine (laws_toDigest.calls ((rd_T24 l0 x4_1).f0) ((rd_T24 l0 x4_1).f1) ((rd_T24 l0 x4_1).f2) ((rd_T24 l0 x4_1).f3) t247 t248 t249 t250 _ A8.out).mono ?_); rintro e w11 ⟨rfl, hb⟩; refine ⟨_, rfl, ?_⟩; replace HO_3 := rb_ HO_3.out hb; replace HB := stepB_ hb; (try clear hb); (try clear hk); have p10 : 0 ≤ (x4_1 : Int) := ofd_; have q10 : (x4_1 : Int) < ((x3_1.length : Int) : Int) := ofd_; obtain ⟨go10, co10, eo10, gb10, gl10, cl10, HG10⟩ := Kd.R_form HO_3.out (by omega); (first | cases eo10 | (injection eo10 with ea_ en_ ec_; (first | subst ea_ | (injection ea_ with ea_; subst ea_)); subst ec_; clear en_)); have GB10 := Aside0.mk gb10; have GG10 := Aside0.mk HG10; clear gb10 gl10 HG10; obtain ⟨ce10, hcl10, hM10, hcc10, hfr10⟩ := Kd.R_elem HO_3.out z29 (x4_1 : Int) p10 q10; obtain rfl := k29_openM hM10; have hx10_0 : w11.cell? ⟨go10, (x4_1 : Int).toNat * 4, none⟩ = some (.int .u64 ((rd_T29 x3_1 x4_1).f0)) := hcc10 0 _ rfl; have hx10_1 : w11.cell? ⟨go10, (x4_1 : Int).toNat * 4 + 1, none⟩ = some (.int .u64 ((rd_T29 x3_1 x4_1).f1)) := hcc10 1 _ rfl; have hx10_2 : w11.cell? ⟨go10, (x4_1 : Int).toNat * 4 + 2, none⟩ = some (.int .u64 ((rd_T29 x3_1 x4_1).f2)) := hcc10 2 _ rfl; have hx10_3 : w11.cell? ⟨go10, (x4_1 : Int).toNat * 4 + 3, none⟩ = some (.int .u64 ((rd_T29 x3_1 x4_1).f3)) := hcc10 3 _ rfl; have hf10_0 : w11.frozen? ⟨go10, (x4_1 : Int).toNat * 4, none⟩ = false := hfr10 0; have hf10_1 : w11.frozen? ⟨go10, (x4_1 : Int).toNat * 4 + 1, none⟩ = false := hfr10 1; have hf10_2 : w11.frozen? ⟨go10, (x4_1 : Int).toNat * 4 + 2, none⟩ = false := hfr10 2; have hf10_3 : w11.frozen? ⟨go10, (x4_1 : Int).toNat * 4 + 3, none⟩ = false := hfr10 3; clear hcl10 hcc10 hfr10 hM10; replace p10 := eq_true p10; replace q10 := eq_true q10; have HX12 := a_ (show Kd.R k29 29 w11 w.heap.size (fun _ => True) (.slice (some ⟨go10, 0, none⟩) x3_1.length co10) x3_1 from (kdU_ HO_3.out)); obtain ⟨ce12, hcl12, hM12, hcc12, hfr12⟩ := Kd.R_elem HX12.out z29 (x4_1 : Int) (ofd_) (by have h_ : (x4_1 : Int) < ((x3_1.length : Int) : Int) := ofd_; first | exact h_ | (have e_ := (Kd.R_reads' HO_3.out).1; omega) | simpa using h_); obtain rfl := k29_openM hM12; have HP12 := Kd.R_seg HX12.out (x4_1 : Int) (ofd_) (by have h_ : (x4_1 : Int) < ((x3_1.length : Int) : Int) := ofd_; first | exact h_ | (have e_ := (Kd.R_reads' HO_3.out).1; omega) | simpa using h_) (seg := [.int .u64 t247, .int .u64 t248, .int .u64 t249, .int .u64 t250]) (j := 0) hcl12 hcc12 (show 4 ≤ 4 from by decide) (x' := (⟨t247, t248, t249, t250⟩ : S29)) (k29_mkM _ _ _ (⟨t247, t248, t249, t250⟩ : S29) ) (fun _ hk => hk); have hx12_0 := hcc12 0 _ rfl; (try simp only [show (k29).sz = 4 from rfl, Nat.mul_one, Nat.add_zero] at hx12_0); have hf12_0 := hfr12 0; (try simp only [show (k29).sz = 4 from rfl, Nat.mul_one, Nat.add_zero] at hf12_0); have hx12_1 := hcc12 1 _ rfl; (try simp only [show (k29).sz = 4 from rfl, Nat.mul_one, Nat.add_zero] at hx12_1); have hf12_1 := hfr12 1; (try simp only [show (k29).sz = 4 from rfl, Nat.mul_one, Nat.add_zero] at hf12_1); have hx12_2 := hcc12 2 _ rfl; (try simp only [show (k29).sz = 4 from rfl, Nat.mul_one, Nat.add_zero] at hx12_2); have hf12_2 := hfr12 2; (try simp only [show (k29).sz = 4 from rfl, Nat.mul_one, Nat.add_zero] at hf12_2); have hx12_3 := hcc12 3 _ rfl; (try simp only [show (k29).sz = 4 from rfl, Nat.mul_one, Nat.add_zero] at hx12_3); have hf12_3 := hfr12 3; (try simp only [show (k29).sz = 4 from rfl, Nat.mul_one, Nat.add_zero] at hf12_3); clear hcl12 hcc12 hfr12 hM12) | ((with_reducible refine gate_store (t := 29) (p := 21) rfl ?_); refine store_event (t := 29) (p := 21) (v := ?vo_w13) (w1 := ((((w11.setCell ⟨go10, (x4_1 : Int).toNat * 4, none⟩ (.int .u64 t247)).setCell ⟨go10, (x4_1 : Int).toNat * 4 + 1, none⟩ (.int .u64 t248)).setCell ⟨go10, (x4_1 : Int).toNat * 4 + 2, none⟩ (.int .u64 t249)).setCell ⟨go10, (x4_1 : Int).toNat * 4 + 3, none⟩ (.int .u64 t250))) ?hg ?ho ?hn ?hr ?_; (case ho => rfl); (case hg => rfl); (case hn => rfl); (case hr => first | (go_simp; done) | (go_simp; rfl)); intro w13 hw; have hg : w11.grownBy w13 (some go10) := (by rw [hw]; exact HP12.2); have hp_ : Kd.R k29 29 w13 w.heap.size (fun _ => True) (.slice (some ⟨go10, 0, none⟩) x3_1.length co10) y251 := (by rw [hw, Ny251.out]; exact HP12.1); clear HP12; replace HO_3 := a_ (hp_); replace HB := a_ ((by rw [hw]; exact below_set (below_set (below_set (below_set (HB.out) GB10.out) GB10.out) GB10.out) GB10.out : Below w.heap.size w w13)); clear hg hw hp_))
        go_roundg k1
        case measure => have := HK1.out; omega
        case rel => exact ⟨(y251), (wrap64 (x4_1 + 1)), rl_, H', ⟨by have := HK1.out; omega⟩, ⟨kdU_ HO_3.out⟩, ⟨bel_⟩⟩
       ·rw [if_neg c9] at H
        exact absurd H (by simp)
      ·rw [if_neg c7] at H
       exact absurd H (by simp)
     ·rw [if_neg c6] at H
      have c6b0 := decide_eq_false c6
      clear c6
      obtain rfl := Option.some.inj H
      go_wp2
      go_ret
      exact ⟨_, rfl_, by (with_reducible repeat (first | apply Kd.R_alloc | apply Kd.R_drewN | apply Kd.R_drew)); exact HO_3.out, bel_⟩
  ·rw [if_neg c3] at H
   exact absurd H (by simp)
 ·rw [if_neg c2] at H
  exact absurd H (by simp)
end
section
def laws_eqDigest.f (a0_0 a0_1 : Int) (a0_2 a0_3 : Int) (a1_0 a1_1 : Int) (a1_2 a1_3 : Int) : Option (Bool) := if a0_0 = a1_0 then (if a0_1 = a1_1 then (if a0_2 = a1_2 then (if a0_3 = a1_3 then (some true) else (some false)) else (some false)) else (some false)) else (some false)
theorem laws_eqDigest.calls (a0_0 a0_1 : Int) (a0_2 a0_3 : Int) (a1_0 a1_1 : Int) (a1_2 a1_3 : Int) (r : Bool) (w : World) (h : laws_eqDigest.f a0_0 a0_1 a0_2 a0_3 a1_0 a1_1 a1_2 a1_3 = some r) :
  Calls Try.prog 45 #[.agg #[.int .u64 a0_0, .int .u64 a0_1, .int .u64 a0_2, .int .u64 a0_3], .agg #[.int .u64 a1_0, .int .u64 a1_1, .int .u64 a1_2, .int .u64 a1_3]] w fun e w' => e = .returned (.bool r) ∧ Below w.heap.size w w' := by
 have hu29 := Try.underlying29
 have HB := a_ (Below.refl w.heap.size w)
 have H := h
 unfold laws_eqDigest.f at H
 clear h
 by_cases c3 : a0_0 = a1_0
 ·rw [if_pos c3] at H
  have c3b0 := beq_iff_eq.mpr c3
  have c3b1 := bne_eq_false_iff_eq.mpr c3
  clear c3
  by_cases c4 : a0_1 = a1_1
  ·rw [if_pos c4] at H
   have c4b0 := beq_iff_eq.mpr c4
   have c4b1 := bne_eq_false_iff_eq.mpr c4
   clear c4
   by_cases c5 : a0_2 = a1_2
   ·rw [if_pos c5] at H
    have c5b0 := beq_iff_eq.mpr c5
    have c5b1 := bne_eq_false_iff_eq.mpr c5
    clear c5
    by_cases c6 : a0_3 = a1_3
    ·rw [if_pos c6] at H
     have c6b0 := beq_iff_eq.mpr c6
     have c6b1 := bne_eq_false_iff_eq.mpr c6
     clear c6
     obtain rfl := Option.some.inj H
     go_enter Try.func45, Try.ntmps45
     go_wp2_with (first | ((with_reducible refine gate_dst (N := 2) rfl ?_); refine boxE_ (cs := #[.int .u64 a0_0, .int .u64 a0_1, .int .u64 a0_2, .int .u64 a0_3]) (t := 29) ?_; intro gb501 hg w7 hbox hb; have BK501 := a_ (hbox); have GW501 := sizeB_ hg; replace HB := stepB_ hb; clear hb hbox hg) | ((with_reducible refine gate_dst (N := 3) rfl ?_); refine boxE_ (cs := #[.int .u64 a1_0, .int .u64 a1_1, .int .u64 a1_2, .int .u64 a1_3]) (t := 29) ?_; intro gb502 hg w8 hbox hb; have BK502 := a_ (hbox); have GW502 := sizeB_ hg; replace HB := stepB_ hb; obtain ⟨NB501_502, NB502_501⟩ := ne2_ BK501.out hg; replace BK501 := bb_ BK501.out hb; clear hb hbox hg; have hnb9 := NB501_502.out; have hnc9 := NB502_501.out; obtain ⟨z10_0, z10_1, z10_2, z10_3, f10_0, f10_1, f10_2, f10_3⟩ := cz4_ BK501.out; obtain ⟨z11_0, z11_1, z11_2, z11_3, f11_0, f11_1, f11_2, f11_3⟩ := cz4_ BK502.out))
     go_ret
     exact ⟨rfl_, bel_⟩
    ·rw [if_neg c6] at H
     have c6b0 := beq_eq_false_iff_ne.mpr c6
     have c6b1 := bne_iff_ne.mpr c6
     obtain rfl := Option.some.inj H
     go_enter Try.func45, Try.ntmps45
     go_wp2_with (first | ((with_reducible refine gate_dst (N := 2) rfl ?_); refine boxE_ (cs := #[.int .u64 a0_0, .int .u64 a0_1, .int .u64 a0_2, .int .u64 a0_3]) (t := 29) ?_; intro gb501 hg w12 hbox hb; have BK501 := a_ (hbox); have GW501 := sizeB_ hg; replace HB := stepB_ hb; clear hb hbox hg) | ((with_reducible refine gate_dst (N := 3) rfl ?_); refine boxE_ (cs := #[.int .u64 a1_0, .int .u64 a1_1, .int .u64 a1_2, .int .u64 a1_3]) (t := 29) ?_; intro gb502 hg w13 hbox hb; have BK502 := a_ (hbox); have GW502 := sizeB_ hg; replace HB := stepB_ hb; obtain ⟨NB501_502, NB502_501⟩ := ne2_ BK501.out hg; replace BK501 := bb_ BK501.out hb; clear hb hbox hg; have hnb14 := NB501_502.out; have hnc14 := NB502_501.out; obtain ⟨z15_0, z15_1, z15_2, z15_3, f15_0, f15_1, f15_2, f15_3⟩ := cz4_ BK501.out; obtain ⟨z16_0, z16_1, z16_2, z16_3, f16_0, f16_1, f16_2, f16_3⟩ := cz4_ BK502.out))
     go_ret
     exact ⟨rfl_, bel_⟩
   ·rw [if_neg c5] at H
    have c5b0 := beq_eq_false_iff_ne.mpr c5
    have c5b1 := bne_iff_ne.mpr c5
    obtain rfl := Option.some.inj H
    go_enter Try.func45, Try.ntmps45
    go_wp2_with (first | ((with_reducible refine gate_dst (N := 2) rfl ?_); refine boxE_ (cs := #[.int .u64 a0_0, .int .u64 a0_1, .int .u64 a0_2, .int .u64 a0_3]) (t := 29) ?_; intro gb501 hg w17 hbox hb; have BK501 := a_ (hbox); have GW501 := sizeB_ hg; replace HB := stepB_ hb; clear hb hbox hg) | ((with_reducible refine gate_dst (N := 3) rfl ?_); refine boxE_ (cs := #[.int .u64 a1_0, .int .u64 a1_1, .int .u64 a1_2, .int .u64 a1_3]) (t := 29) ?_; intro gb502 hg w18 hbox hb; have BK502 := a_ (hbox); have GW502 := sizeB_ hg; replace HB := stepB_ hb; obtain ⟨NB501_502, NB502_501⟩ := ne2_ BK501.out hg; replace BK501 := bb_ BK501.out hb; clear hb hbox hg; have hnb19 := NB501_502.out; have hnc19 := NB502_501.out; obtain ⟨z20_0, z20_1, z20_2, z20_3, f20_0, f20_1, f20_2, f20_3⟩ := cz4_ BK501.out; obtain ⟨z21_0, z21_1, z21_2, z21_3, f21_0, f21_1, f21_2, f21_3⟩ := cz4_ BK502.out))
    go_ret
    exact ⟨rfl_, bel_⟩
  ·rw [if_neg c4] at H
   have c4b0 := beq_eq_false_iff_ne.mpr c4
   have c4b1 := bne_iff_ne.mpr c4
   obtain rfl := Option.some.inj H
   go_enter Try.func45, Try.ntmps45
   go_wp2_with (first | ((with_reducible refine gate_dst (N := 2) rfl ?_); refine boxE_ (cs := #[.int .u64 a0_0, .int .u64 a0_1, .int .u64 a0_2, .int .u64 a0_3]) (t := 29) ?_; intro gb501 hg w22 hbox hb; have BK501 := a_ (hbox); have GW501 := sizeB_ hg; replace HB := stepB_ hb; clear hb hbox hg) | ((with_reducible refine gate_dst (N := 3) rfl ?_); refine boxE_ (cs := #[.int .u64 a1_0, .int .u64 a1_1, .int .u64 a1_2, .int .u64 a1_3]) (t := 29) ?_; intro gb502 hg w23 hbox hb; have BK502 := a_ (hbox); have GW502 := sizeB_ hg; replace HB := stepB_ hb; obtain ⟨NB501_502, NB502_501⟩ := ne2_ BK501.out hg; replace BK501 := bb_ BK501.out hb; clear hb hbox hg; have hnb24 := NB501_502.out; have hnc24 := NB502_501.out; obtain ⟨z25_0, z25_1, z25_2, z25_3, f25_0, f25_1, f25_2, f25_3⟩ := cz4_ BK501.out; obtain ⟨z26_0, z26_1, z26_2, z26_3, f26_0, f26_1, f26_2, f26_3⟩ := cz4_ BK502.out))
   go_ret
   exact ⟨rfl_, bel_⟩
 ·rw [if_neg c3] at H
  have c3b0 := beq_eq_false_iff_ne.mpr c3
  have c3b1 := bne_iff_ne.mpr c3
  obtain rfl := Option.some.inj H
  go_enter Try.func45, Try.ntmps45
  go_wp2_with (first | ((with_reducible refine gate_dst (N := 2) rfl ?_); refine boxE_ (cs := #[.int .u64 a0_0, .int .u64 a0_1, .int .u64 a0_2, .int .u64 a0_3]) (t := 29) ?_; intro gb501 hg w27 hbox hb; have BK501 := a_ (hbox); have GW501 := sizeB_ hg; replace HB := stepB_ hb; clear hb hbox hg) | ((with_reducible refine gate_dst (N := 3) rfl ?_); refine boxE_ (cs := #[.int .u64 a1_0, .int .u64 a1_1, .int .u64 a1_2, .int .u64 a1_3]) (t := 29) ?_; intro gb502 hg w28 hbox hb; have BK502 := a_ (hbox); have GW502 := sizeB_ hg; replace HB := stepB_ hb; obtain ⟨NB501_502, NB502_501⟩ := ne2_ BK501.out hg; replace BK501 := bb_ BK501.out hb; clear hb hbox hg; have hnb29 := NB501_502.out; have hnc29 := NB502_501.out; obtain ⟨z30_0, z30_1, z30_2, z30_3, f30_0, f30_1, f30_2, f30_3⟩ := cz4_ BK501.out; obtain ⟨z31_0, z31_1, z31_2, z31_3, f31_0, f31_1, f31_2, f31_3⟩ := cz4_ BK502.out))
  go_ret
  exact ⟨rfl_, bel_⟩
end
section
def laws_eqDigestS.l0 : Nat → List (S29) → List (S29) → Int → Option (Bool)
 | 0, _, _, _ => none
 | k + 1, x0, x1, x5 => if x5 < (x0.length : Int) then (if 0 ≤ x5 then (if x5 < (x1.length : Int) then ((laws_eqDigest.f ((rd_T29 x0 x5).f0) ((rd_T29 x0 x5).f1) ((rd_T29 x0 x5).f2) ((rd_T29 x0 x5).f3) ((rd_T29 x1 x5).f0) ((rd_T29 x1 x5).f1) ((rd_T29 x1 x5).f2) ((rd_T29 x1 x5).f3)).bind fun t508 => (if t508 = true then (laws_eqDigestS.l0 k x0 x1 (wrap64 (x5 + 1))) else (some false))) else (none)) else (none)) else (some true)
def laws_eqDigestS.f (k : Nat) (l0 l1 : List (S29)) : Option (Bool) := if (l0.length : Int) = (l1.length : Int) then (laws_eqDigestS.l0 k l0 l1 0) else (some false)
def laws_eqDigestS.T6 : Bool × List (List Nat × List Nat) := (true, [([], []), ([], []), ([0, 1], [0, 1]), ([2], [2]), ([], []), ([], []), ([4, 5], [4, 5]), ([6], [6]), ([3, 7], [3, 7]), ([8], [8])])
def laws_eqDigestS.B6 : List Nat := [0, 0, 3, 7, 0, 0, 48, 112, 255, 511]
theorem laws_eqDigestS.tab6 : rtab .any (opsOf Try.f25 6) = laws_eqDigestS.T6 := by kernel_rfl
theorem laws_eqDigestS.bits6 : waitsOk laws_eqDigestS.T6.2 laws_eqDigestS.B6 = true := by kernel_rfl
theorem laws_eqDigestS.calls (k : Nat) (A0 : Option Addr) (c0 : Nat) (l0 : List (S29)) (A1 : Option Addr) (c1 : Nat) (l1 : List (S29)) (r : Bool) (w : World) (hr0 : Kd.C k29 w A0 l0.length l0) (hc0 : l0.length ≤ c0) (hr1 : Kd.C k29 w A1 l1.length l1) (hc1 : l1.length ≤ c1) (h : laws_eqDigestS.f k l0 l1 = some r) :
  Calls Try.prog 25 #[.slice A0 l0.length c0, .slice A1 l1.length c1] w fun e w' => e = .returned (.bool r) ∧ Below w.heap.size w w' := by
 have hu29 := Try.underlying29
 have HR0 := Aside0.mk hr0
 have HC0 := Aside0.mk hc0
 clear hr0 hc0
 have HR1 := Aside0.mk hr1
 have HC1 := Aside0.mk hc1
 clear hr1 hc1
 have HB := a_ (Below.refl w.heap.size w)
 have H := h
 unfold laws_eqDigestS.f at H
 clear h
 by_cases c3 : (l0.length : Int) = (l1.length : Int)
 ·rw [if_pos c3] at H
  have c3b0 := beq_iff_eq.mpr c3
  have c3b1 := bne_eq_false_iff_eq.mpr c3
  have c3b2 : (l0.length == l1.length) = true := by first | simpa using c3 | (simp at c3 ⊢; omega)
  clear c3
  have H' := Aside0.mk H
  clear H
  go_enter Try.func25, Try.ntmps25
  go_wp2
  go_loopg [5] k (fun kq v5 w' => ∃ (x5_1 : Int), v5 = .int .i64 x5_1 ∧ Aside0 (laws_eqDigestS.l0 kq l0 l1 x5_1 = some r) ∧ Aside0 (kq ≤ k) ∧ Aside0 (Below w.heap.size w w'))
  case atStart => exact ⟨(0), rl_, H', ⟨Nat.le_refl _⟩, ⟨bel_⟩⟩
  case round =>
   clear H'
   (try clear c1); (try clear c3); (try clear c3b0); (try clear c3b1); (try clear c3b2)
   obtain ⟨x5_1, rfl, HA, HK1, HB⟩ := hrel
   cases gk with
   | zero => exact absurd HA.out (by simp [laws_eqDigestS.l0])
   | succ k1 =>
    have H := HA.out
    clear HA
    simp only [laws_eqDigestS.l0] at H
    by_cases c4 : x5_1 < (l0.length : Int)
    ·rw [if_pos c4] at H
     have c4b0 := decide_eq_true c4
     clear c4
     by_cases c5 : 0 ≤ x5_1
     ·rw [if_pos c5] at H
      have c5b0 := decide_eq_true c5
      clear c5
      by_cases c6 : x5_1 < (l1.length : Int)
      ·rw [if_pos c6] at H
       have c6b0 := decide_eq_true c6
       clear c6
       obtain ⟨t508, A7, H⟩ := bnd_ H
       by_cases c8 : t508 = true
       ·subst c8
        rw [if_pos rfl] at H
        have H' := Aside0.mk H
        clear H
        try go_wp2
        replace HB := a_ (below_drew1 HB.out)
        have p506 : 0 ≤ (x5_1 : Int) := ofd_
        have q506 : x5_1 < (l0.length : Int) := ofd_
        obtain ⟨ad506, e506, hx506_0, hx506_1, hx506_2, hx506_3⟩ := at_T29 HR0.out x5_1 p506 q506
        have hw506_3 := hx506_3
        have hw506_2 := hx506_2
        have hw506_1 := hx506_1
        have hw506_0 := hx506_0
        cases e506
        replace hx506_0 := pc_ HB.out hx506_0
        replace hx506_1 := pc_ HB.out hx506_1
        replace hx506_2 := pc_ HB.out hx506_2
        replace hx506_3 := pc_ HB.out hx506_3
        replace p506 := eq_true p506
        replace q506 := eq_true q506
        have p507 : 0 ≤ (x5_1 : Int) := ofd_
        have q507 : x5_1 < (l1.length : Int) := ofd_
        obtain ⟨ad507, e507, hx507_0, hx507_1, hx507_2, hx507_3⟩ := at_T29 HR1.out x5_1 p507 q507
        have hw507_3 := hx507_3
        have hw507_2 := hx507_2
        have hw507_1 := hx507_1
        have hw507_0 := hx507_0
        cases e507
        replace hx507_0 := pc_ HB.out hx507_0
        replace hx507_1 := pc_ HB.out hx507_1
        replace hx507_2 := pc_ HB.out hx507_2
        replace hx507_3 := pc_ HB.out hx507_3
        replace p507 := eq_true p507
        replace q507 := eq_true q507
        refine start_ (n := 10) (S := fun w' => w'.cell? (ad506.add ((x5_1).toNat * 4)) = some (.int .u64 ((rd_T29 l0 x5_1).f0)) ∧ w'.cell? ⟨(ad506.add ((x5_1).toNat * 4)).block, (ad506.add ((x5_1).toNat * 4)).off + 1, none⟩ = some (.int .u64 ((rd_T29 l0 x5_1).f1)) ∧ w'.cell? ⟨(ad506.add ((x5_1).toNat * 4)).block, (ad506.add ((x5_1).toNat * 4)).off + 2, none⟩ = some (.int .u64 ((rd_T29 l0 x5_1).f2)) ∧ w'.cell? ⟨(ad506.add ((x5_1).toNat * 4)).block, (ad506.add ((x5_1).toNat * 4)).off + 3, none⟩ = some (.int .u64 ((rd_T29 l0 x5_1).f3)) ∧ w'.cell? (ad507.add ((x5_1).toNat * 4)) = some (.int .u64 ((rd_T29 l1 x5_1).f0)) ∧ w'.cell? ⟨(ad507.add ((x5_1).toNat * 4)).block, (ad507.add ((x5_1).toNat * 4)).off + 1, none⟩ = some (.int .u64 ((rd_T29 l1 x5_1).f1)) ∧ w'.cell? ⟨(ad507.add ((x5_1).toNat * 4)).block, (ad507.add ((x5_1).toNat * 4)).off + 2, none⟩ = some (.int .u64 ((rd_T29 l1 x5_1).f2)) ∧ w'.cell? ⟨(ad507.add ((x5_1).toNat * 4)).block, (ad507.add ((x5_1).toNat * 4)).off + 3, none⟩ = some (.int .u64 ((rd_T29 l1 x5_1).f3))) (ds := []) #[false, false, false, false, false, false, false, false, false, false] (by kernel_rfl) rfl rfl ⟨(pc_ HB.out hw506_0), (pc_ HB.out hw506_1), (pc_ HB.out hw506_2), (pc_ HB.out hw506_3), (pc_ HB.out hw507_0), (pc_ HB.out hw507_1), (pc_ HB.out hw507_2), (pc_ HB.out hw507_3)⟩ (fun hHeld => ?_); refine with_tabW laws_eqDigestS.tab6 laws_eqDigestS.bits6 (fun HT HW_ => ?_)
        generalize wr.drew = w9 at HB hx506_0 hx506_1 hx506_2 hx506_3 hx507_0 hx507_1 hx507_2 hx507_3 hHeld ⊢
        refine pP_ 0 (some 17) (b_ 10 1) HT ?_
        refine pP_ 1 (some 18) (b_ 10 3) HT ?_
        refine pP_ 2 (some 19) (b_ 10 7) HT ?_
        refine pP_ 4 (some 21) (b_ 10 23) HT ?_
        refine pP_ 5 (some 22) (b_ 10 55) HT ?_
        refine pP_ 6 (some 23) (b_ 10 119) HT ?_
        refine takeP_ 3 (some 20) (b_ 10 127) HT HW_ hHeld ?_
        refine takeP_ 7 (some 24) (b_ 10 255) HT HW_ hHeld ?_
        refine oneP_ 8 (some 25) (b_ 10 511) HT (fun K hK => ?_)
        refine goN_ Try.func45 #[.agg #[.int .u64 ((rd_T29 l0 x5_1).f0), .int .u64 ((rd_T29 l0 x5_1).f1), .int .u64 ((rd_T29 l0 x5_1).f2), .int .u64 ((rd_T29 l0 x5_1).f3)], .agg #[.int .u64 ((rd_T29 l1 x5_1).f0), .int .u64 ((rd_T29 l1 x5_1).f1), .int .u64 ((rd_T29 l1 x5_1).f2), .int .u64 ((rd_T29 l1 x5_1).f3)]] ?_
        with_reducible refine (laws_eqDigest.calls ((rd_T29 l0 x5_1).f0) ((rd_T29 l0 x5_1).f1) ((rd_T29 l0 x5_1).f2) ((rd_T29 l0 x5_1).f3) ((rd_T29 l1 x5_1).f0) ((rd_T29 l1 x5_1).f1) ((rd_T29 l1 x5_1).f2) ((rd_T29 l1 x5_1).f3) true _ A7.out).mono ?_
        rintro e w10 ⟨rfl, hb⟩
        refine ⟨_, rfl, ?_⟩
        replace HB := stepB_ hb
        (try clear hb)
        refine hK.out _ _ ⟨(pc_ HB.out hw506_0), (pc_ HB.out hw506_1), (pc_ HB.out hw506_2), (pc_ HB.out hw506_3), (pc_ HB.out hw507_0), (pc_ HB.out hw507_1), (pc_ HB.out hw507_2), (pc_ HB.out hw507_3)⟩ (fun hHeld => ?_)
        clear hK K
        refine normP_ (some 25) ?_
        refine pP_ 9 (some 26) (b_ 10 1023) HT ?_
        refine done_ (done_of HT.out (by kernel_rfl)) ?_
        try go_wp2
        go_roundg k1
        case measure => have := HK1.out; omega
        case rel => exact ⟨(wrap64 (x5_1 + 1)), rl_, H', ⟨by have := HK1.out; omega⟩, ⟨bel_⟩⟩
       ·replace c8 := Bool.eq_false_iff.mpr c8
        subst c8
        rw [if_neg (show ¬ (false = true) by decide)] at H
        obtain rfl := Option.some.inj H
        try go_wp2
        replace HB := a_ (below_drew1 HB.out)
        have p506 : 0 ≤ (x5_1 : Int) := ofd_
        have q506 : x5_1 < (l0.length : Int) := ofd_
        obtain ⟨ad506, e506, hx506_0, hx506_1, hx506_2, hx506_3⟩ := at_T29 HR0.out x5_1 p506 q506
        have hw506_3 := hx506_3
        have hw506_2 := hx506_2
        have hw506_1 := hx506_1
        have hw506_0 := hx506_0
        cases e506
        replace hx506_0 := pc_ HB.out hx506_0
        replace hx506_1 := pc_ HB.out hx506_1
        replace hx506_2 := pc_ HB.out hx506_2
        replace hx506_3 := pc_ HB.out hx506_3
        replace p506 := eq_true p506
        replace q506 := eq_true q506
        have p507 : 0 ≤ (x5_1 : Int) := ofd_
        have q507 : x5_1 < (l1.length : Int) := ofd_
        obtain ⟨ad507, e507, hx507_0, hx507_1, hx507_2, hx507_3⟩ := at_T29 HR1.out x5_1 p507 q507
        have hw507_3 := hx507_3
        have hw507_2 := hx507_2
        have hw507_1 := hx507_1
        have hw507_0 := hx507_0
        cases e507
        replace hx507_0 := pc_ HB.out hx507_0
        replace hx507_1 := pc_ HB.out hx507_1
        replace hx507_2 := pc_ HB.out hx507_2
        replace hx507_3 := pc_ HB.out hx507_3
        replace p507 := eq_true p507
        replace q507 := eq_true q507
        refine start_ (n := 10) (S := fun w' => w'.cell? (ad506.add ((x5_1).toNat * 4)) = some (.int .u64 ((rd_T29 l0 x5_1).f0)) ∧ w'.cell? ⟨(ad506.add ((x5_1).toNat * 4)).block, (ad506.add ((x5_1).toNat * 4)).off + 1, none⟩ = some (.int .u64 ((rd_T29 l0 x5_1).f1)) ∧ w'.cell? ⟨(ad506.add ((x5_1).toNat * 4)).block, (ad506.add ((x5_1).toNat * 4)).off + 2, none⟩ = some (.int .u64 ((rd_T29 l0 x5_1).f2)) ∧ w'.cell? ⟨(ad506.add ((x5_1).toNat * 4)).block, (ad506.add ((x5_1).toNat * 4)).off + 3, none⟩ = some (.int .u64 ((rd_T29 l0 x5_1).f3)) ∧ w'.cell? (ad507.add ((x5_1).toNat * 4)) = some (.int .u64 ((rd_T29 l1 x5_1).f0)) ∧ w'.cell? ⟨(ad507.add ((x5_1).toNat * 4)).block, (ad507.add ((x5_1).toNat * 4)).off + 1, none⟩ = some (.int .u64 ((rd_T29 l1 x5_1).f1)) ∧ w'.cell? ⟨(ad507.add ((x5_1).toNat * 4)).block, (ad507.add ((x5_1).toNat * 4)).off + 2, none⟩ = some (.int .u64 ((rd_T29 l1 x5_1).f2)) ∧ w'.cell? ⟨(ad507.add ((x5_1).toNat * 4)).block, (ad507.add ((x5_1).toNat * 4)).off + 3, none⟩ = some (.int .u64 ((rd_T29 l1 x5_1).f3))) (ds := []) #[false, false, false, false, false, false, false, false, false, false] (by kernel_rfl) rfl rfl ⟨(pc_ HB.out hw506_0), (pc_ HB.out hw506_1), (pc_ HB.out hw506_2), (pc_ HB.out hw506_3), (pc_ HB.out hw507_0), (pc_ HB.out hw507_1), (pc_ HB.out hw507_2), (pc_ HB.out hw507_3)⟩ (fun hHeld => ?_); refine with_tabW laws_eqDigestS.tab6 laws_eqDigestS.bits6 (fun HT HW_ => ?_)
        generalize wr.drew = w11 at HB hx506_0 hx506_1 hx506_2 hx506_3 hx507_0 hx507_1 hx507_2 hx507_3 hHeld ⊢
        refine pP_ 0 (some 17) (b_ 10 1) HT ?_
        refine pP_ 1 (some 18) (b_ 10 3) HT ?_
        refine pP_ 2 (some 19) (b_ 10 7) HT ?_
        refine pP_ 4 (some 21) (b_ 10 23) HT ?_
        refine pP_ 5 (some 22) (b_ 10 55) HT ?_
        refine pP_ 6 (some 23) (b_ 10 119) HT ?_
        refine takeP_ 3 (some 20) (b_ 10 127) HT HW_ hHeld ?_
        refine takeP_ 7 (some 24) (b_ 10 255) HT HW_ hHeld ?_
        refine oneP_ 8 (some 25) (b_ 10 511) HT (fun K hK => ?_)
        refine goN_ Try.func45 #[.agg #[.int .u64 ((rd_T29 l0 x5_1).f0), .int .u64 ((rd_T29 l0 x5_1).f1), .int .u64 ((rd_T29 l0 x5_1).f2), .int .u64 ((rd_T29 l0 x5_1).f3)], .agg #[.int .u64 ((rd_T29 l1 x5_1).f0), .int .u64 ((rd_T29 l1 x5_1).f1), .int .u64 ((rd_T29 l1 x5_1).f2), .int .u64 ((rd_T29 l1 x5_1).f3)]] ?_
        with_reducible refine (laws_eqDigest.calls ((rd_T29 l0 x5_1).f0) ((rd_T29 l0 x5_1).f1) ((rd_T29 l0 x5_1).f2) ((rd_T29 l0 x5_1).f3) ((rd_T29 l1 x5_1).f0) ((rd_T29 l1 x5_1).f1) ((rd_T29 l1 x5_1).f2) ((rd_T29 l1 x5_1).f3) false _ A7.out).mono ?_
        rintro e w12 ⟨rfl, hb⟩
        refine ⟨_, rfl, ?_⟩
        replace HB := stepB_ hb
        (try clear hb)
        refine hK.out _ _ ⟨(pc_ HB.out hw506_0), (pc_ HB.out hw506_1), (pc_ HB.out hw506_2), (pc_ HB.out hw506_3), (pc_ HB.out hw507_0), (pc_ HB.out hw507_1), (pc_ HB.out hw507_2), (pc_ HB.out hw507_3)⟩ (fun hHeld => ?_)
        clear hK K
        refine normP_ (some 25) ?_
        refine pP_ 9 (some 26) (b_ 10 1023) HT ?_
        refine done_ (done_of HT.out (by kernel_rfl)) ?_
        try go_wp2
        go_ret
        exact ⟨rfl_, bel_⟩
      ·rw [if_neg c6] at H
       exact absurd H (by simp)
     ·rw [if_neg c5] at H
      exact absurd H (by simp)
    ·rw [if_neg c4] at H
     have c4b0 := decide_eq_false c4
     clear c4
     obtain rfl := Option.some.inj H
     go_wp2
     go_ret
     exact ⟨rfl_, bel_⟩
 ·rw [if_neg c3] at H
  have c3b0 := beq_eq_false_iff_ne.mpr c3
  have c3b1 := bne_iff_ne.mpr c3
  have c3b2 : (l0.length == l1.length) = false := by first | simpa using c3 | (simp at c3 ⊢; omega)
  obtain rfl := Option.some.inj H
  go_enter Try.func25, Try.ntmps25
  go_wp2
  go_ret
  exact ⟨rfl_, bel_⟩
end
end Go.Proofs.Ytflckegggopdnaa.B
