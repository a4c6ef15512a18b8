/- What the Go functions of these names do; condition: .f gives an answer. -/
import Derived.Test.YtflckegggopdnaaZCCP0
import Derived.Test.YtflckegggopdnaaZCCP2
set_option linter.unusedVariables false
set_option maxHeartbeats 8000000
set_option maxRecDepth 100000
set_option linter.unusedSimpArgs false
namespace Go.Proofs.Ytflckegggopdnaa.B
open Go.RowKit Go.Proofs.YtflckegggopdnaaW
section
def laws_szDigestS.f (l0 : List (S24)) (a0 : Int) : Option (Int) := if (wrap64 (a0 - (l0.length : Int))) < 0 then (some (-1)) else (some (wrap64 (a0 - (l0.length : Int))))
theorem laws_szDigestS.calls (A0 : Option Addr) (c0 : Nat) (l0 : List (S24)) (a0 r : Int) (w : World) (hr0 : Kd.C k24 w A0 l0.length l0) (hc0 : l0.length ≤ c0) (h : laws_szDigestS.f l0 a0 = some r) :
  Calls Try.prog 18 #[.slice A0 l0.length c0, .int .i64 a0] w fun e w' => e = .returned (.int .i64 r) ∧ Drawn0 w w' := by
 have HR0 := a_ hr0
 have HC0 := a_ hc0
 clear hr0 hc0
 have H := h
 unfold laws_szDigestS.f at H
 clear h
 by_cases c3 : (wrap64 (a0 - (l0.length : Int))) < 0
 ·rw [if_pos c3] at H
  have c1 := decide_eq_true c3
  clear c3
  obtain rfl := Option.some.inj H
  go_enter Try.func18, Try.ntmps18
  go_wp2
  go_ret
  exact ⟨rl_, dr_⟩
 ·rw [if_neg c3] at H
  have c1 := decide_eq_false c3
  clear c3
  obtain rfl := Option.some.inj H
  go_enter Try.func18, Try.ntmps18
  go_wp2
  go_ret
  exact ⟨rl_, dr_⟩
end
section
def laws_toDigest.f (a0 a1 a2 a3 : Int) : Option (Int × Int × Int × Int) := some (a0, a1, a2, a3)
theorem laws_toDigest.calls (a0 a1 a2 a3 r0 r1 r2 r3 : Int) (w : World) (h : laws_toDigest.f a0 a1 a2 a3 = some (r0, r1, r2, r3)) :
  Calls Try.prog 44 #[.agg #[.int .u64 a0, .int .u64 a1, .int .u64 a2, .int .u64 a3]] w fun e w' => e = .returned (.agg #[.int .u64 r0, .int .u64 r1, .int .u64 r2, .int .u64 r3]) ∧ Below w.heap.size w w' := by
 have hu24 := Try.underlying24
 have hu29 := Try.underlying29
 have HB := rB_ w
 have H := h
 unfold laws_toDigest.f at H
 clear h
 simp only [Option.some.injEq, Prod.mk.injEq] at H
 obtain ⟨rfl, rfl, rfl, rfl⟩ := H
 go_enter Try.func44, Try.ntmps44
 go_wp2_with (first | (refine bx_ 1 #[.int .u64 a0, .int .u64 a1, .int .u64 a2, .int .u64 a3] 24 ?_; intro gb1 w1 hg hb BK0 GW0; replace HB := s_ hb; clear hb hg) | (refine bx_ 2 #[.int .u64 0, .int .u64 0, .int .u64 0, .int .u64 0] 29 ?_; intro gb0 w2 hg hb BK1 GW1; replace HB := s_ hb; obtain ⟨NB0, NB2⟩ := ne2_ BK0.out hg; replace BK0 := bb_ BK0.out hb; clear hb hg) | (refine bx_ 3 #[.int .u64 0, .int .u64 0, .int .u64 0, .int .u64 0] 29 ?_; intro gb2 w3 hg hb BK2 GW2; replace HB := s_ hb; obtain ⟨NB1, NB4⟩ := ne2_ BK0.out hg; replace BK0 := bb_ BK0.out hb; obtain ⟨NB3, NB5⟩ := ne2_ BK1.out hg; replace BK1 := bb_ BK1.out hb; clear hb hg; have hnb0 := NB0.out; have hnc0 := NB2.out; have hnb1 := NB1.out; have hnc1 := NB4.out; obtain ⟨z4, z5, z6, z7, f4, f5, f6, f7⟩ := cz4_ BK0.out; have hnb2 := NB5.out; have hnc2 := NB3.out; obtain ⟨z8, z9, z10, z11, f8, f9, f10, f11⟩ := cz4_ BK2.out; obtain ⟨z0, z1, z2, z3, f0, f1, f2, f3⟩ := cz4_ BK1.out))
 refine bodyPost_ret (results_cell_row rfl _ _ gb0 29 #[.int .u64 a0, .int .u64 a1, .int .u64 a2, .int .u64 a3] (0, 0) _ rfl (blkF_ BK1.out) Try.underlying29 rfl (by kernel_rfl)) rfl ?_
 exact ⟨rfl_, bel_⟩
end
section
def laws_toDigestS.l0 : Nat → List (S24) → List (S29) → Int → Option ((List (S29)))
 | 0, _, _, _ => none
 | k + 1, x1, x2, x0 => if x0 < (x1.length : Int) then (if 0 ≤ x0 then ((laws_toDigest.f ((rd_T24 x1 x0).f0) ((rd_T24 x1 x0).f1) ((rd_T24 x1 x0).f2) ((rd_T24 x1 x0).f3)).bind fun bt0 => (if x0 < (x2.length : Int) then (laws_toDigestS.l0 k x1 (x2.set (x0 : Int).toNat (⟨bt0.1, bt0.2.1, bt0.2.2.1, bt0.2.2.2⟩ : S29)) (wrap64 (x0 + 1))) else (none))) else (none)) else (some x2)
def laws_toDigestS.f (k : Nat) (l0 : List (S24)) : Option ((List (S29))) := if 0 ≤ (l0.length : Int) then (if ((l0.length : Int) : Int).toNat ≤ 8796093022208 then (laws_toDigestS.l0 k l0 (List.replicate ((l0.length : Int) : Int).toNat z29) 0) else (none)) else (none)
theorem laws_toDigestS.calls (k : Nat) (A0 : Option Addr) (c0 : Nat) (l0 : List (S24)) (r : List (S29)) (w : World) (hr0 : Kd.C k24 w A0 l0.length l0) (hc0 : l0.length ≤ c0) (h : laws_toDigestS.f k l0 = some r) :
  Calls Try.prog 21 #[.slice A0 l0.length c0] w fun e w' => ∃ v0_ : Value, e = .returned (v0_) ∧ Kd.R k29 29 w' w.heap.size (fun _ => True) v0_ r ∧ Below w.heap.size w w' := by
 have hu24 := Try.underlying24
 have hu29 := Try.underlying29
 have HR0 := a_ hr0
 have HC0 := a_ hc0
 clear hr0 hc0
 have HB := rB_ w
 have H := h
 unfold laws_toDigestS.f at H
 clear h
 obtain ⟨c2, H⟩ := ifn_ H
 have c1 := eq_true c2
 have c11 := decide_eq_true c2
 clear c2
 obtain ⟨c3, H⟩ := ifn_ H
 have c12 := eq_true c3
 have c13 := decide_eq_true c3
 clear c3
 obtain ⟨y1, hy0⟩ : ∃ y_ : List (S29), y_ = (List.replicate ((l0.length : Int) : Int).toNat z29) := ⟨_, rfl⟩
 replace H : (laws_toDigestS.l0 k l0 y1 0) = some r := rpl_ hy0 H
 have Ny0 := a_ hy0
 clear hy0
 have H' := a_ H
 clear H
 go_enter Try.func21, Try.ntmps21
 go_wp2_with (first | ((with_reducible refine gate_dst (N := 7) rfl ?_); refine Kd.R_make k29 _ 29 rfl (N := 7) rfl 49 _ _ rfl (l0.length : Int) rfl rfl Try.underlying49 (.agg #[(.int .u64 0), (.int .u64 0), (.int .u64 0), (.int .u64 0)]) 32 info29 rfl (by decide) (by omega) z29 (ok := fun _ => True) (okp := fun _ => True) (k29_mkM _ _ _ z29 ) (fun _ hk => hk) trivial (ofd_) (Nat.le_trans (Nat.mul_le_mul_right _ (ofd_ : (l0.length : Int).toNat ≤ 8796093022208)) (by omega)) (Below.refl _ _) (Nat.le_refl _) ?_; intro v0 w3 ho0 hb hg_ hnew_; clear hg_ hnew_; (first | rw [← Ny0.out] at ho0 | (simp only [Int.reduceToNat] at ho0; rw [← Ny0.out] at ho0)); have HO0 := a_ (Kd.R_lower ho0 (below_size bel_)); replace HB := s_ hb; clear hb ho0))
 go_loopg [4] k (fun kq v1 w' => ∃ (x1 : List (S29)) (x0 : Int), v1 = .int .i64 x0 ∧ Aside0 (laws_toDigestS.l0 kq l0 x1 x0 = some r) ∧ Aside0 (kq ≤ k) ∧ Aside0 (Kd.R k29 29 w' w.heap.size (fun _ => True) v0 x1) ∧ Aside0 (Below w.heap.size w w'))
 case atStart => exact ⟨(y1), (0), rl_, H', ⟨Nat.le_refl _⟩, ⟨kdU_ HO0.out⟩, ⟨bel_⟩⟩
 case round =>
  clear H'
  (try clear c2); (try clear c1); (try clear c11); (try clear c3); (try clear c12); (try clear c13)
  obtain ⟨x1, x0, rfl, HA, HK1, HO_0, HB⟩ := hrel
  cases gk with
  | zero => exact absurd HA.out (by simp [laws_toDigestS.l0])
  | succ k1 =>
   have H := HA.out
   clear HA
   simp only [laws_toDigestS.l0] at H
   by_cases c6 : x0 < (l0.length : Int)
   ·rw [if_pos c6] at H
    have c14 := decide_eq_true c6
    clear c6
    obtain ⟨c15, H⟩ := ifd_ H
    obtain ⟨⟨t0, t1, t2, t3⟩, A1, H⟩ := bnd_ H
    dsimp only at H
    obtain ⟨c16, H⟩ := ifd_ H
    obtain ⟨y0, hy1⟩ : ∃ y_ : List (S29), y_ = (x1.set (x0 : Int).toNat (⟨t0, t1, t2, t3⟩ : S29)) := ⟨_, rfl⟩
    replace H : (laws_toDigestS.l0 k1 l0 y0 (wrap64 (x0 + 1))) = some r := rpl_ hy1 H
    have Ny1 := a_ hy1
    clear hy1
    have H' := a_ H
    clear H
    have p1 : 0 ≤ (x0 : Int) := ofd_
    have q1 : x0 < (l0.length : Int) := ofd_
    obtain ⟨ad0, e0, hx0, hx1, hx2, hx3⟩ := at_T24 HR0.out x0 p1 q1
    cases e0
    replace hx0 := pc_ HB.out hx0
    replace hx1 := pc_ HB.out hx1
    replace hx2 := pc_ HB.out hx2
    replace hx3 := pc_ HB.out hx3
    replace p1 := eq_true p1
    replace q1 := eq_true q1
    go_wp2_with (first | (refine gcB_ 44 20 Try.func44 (laws_toDigest.calls _ _ _ _ _ _ _ _ _ A1.out) ?_; intro w1 hb; replace HO_0 := rb_ HO_0.out hb; replace HB := s_ hb; clear hb; have p0 : 0 ≤ (x0 : Int) := ofd_; have q0 : (x0 : Int) < ((x1.length : Int) : Int) := ofd_; obtain ⟨go10, co0, eo0, gb0, gl10, cl10, HG10⟩ := Kd.R_form HO_0.out (by omega); (first | cases eo0 | (injection eo0 with ea_ en_ ec_; (first | subst ea_ | (injection ea_ with ea_; subst ea_)); subst ec_; clear en_)); have GB10 := a_ gb0; have GG10 := a_ HG10; clear gb0 gl10 HG10; obtain ⟨ce10, hcl10, hM10, hcc10, hfr10⟩ := Kd.R_elem HO_0.out z29 (x0 : Int) p0 q0; obtain rfl := k29_openM hM10; have hx8 : w1.cell? ⟨go10, (x0 : Int).toNat * 4, none⟩ = some (.int .u64 ((rd_T29 x1 x0).f0)) := hcc10 0 _ rfl; have hx9 : w1.cell? ⟨go10, (x0 : Int).toNat * 4 + 1, none⟩ = some (.int .u64 ((rd_T29 x1 x0).f1)) := hcc10 1 _ rfl; have hx10 : w1.cell? ⟨go10, (x0 : Int).toNat * 4 + 2, none⟩ = some (.int .u64 ((rd_T29 x1 x0).f2)) := hcc10 2 _ rfl; have hx11 : w1.cell? ⟨go10, (x0 : Int).toNat * 4 + 3, none⟩ = some (.int .u64 ((rd_T29 x1 x0).f3)) := hcc10 3 _ rfl; have hf10_0 : w1.frozen? ⟨go10, (x0 : Int).toNat * 4, none⟩ = false := hfr10 0; have hf10_1 : w1.frozen? ⟨go10, (x0 : Int).toNat * 4 + 1, none⟩ = false := hfr10 1; have hf10_2 : w1.frozen? ⟨go10, (x0 : Int).toNat * 4 + 2, none⟩ = false := hfr10 2; have hf10_3 : w1.frozen? ⟨go10, (x0 : Int).toNat * 4 + 3, none⟩ = false := hfr10 3; clear hcl10 hcc10 hfr10 hM10; replace p0 := eq_true p0; replace q0 := eq_true q0; have HX12 := a_ (show Kd.R k29 29 w1 w.heap.size (fun _ => True) (.slice (some ⟨go10, 0, none⟩) x1.length co0) x1 from (kdU_ HO_0.out)); obtain ⟨ce12, hcl12, hM12, hcc12, hfr12⟩ := Kd.R_elem HX12.out z29 (x0 : Int) (ofd_) (by have h_ : (x0 : Int) < ((x1.length : Int) : Int) := ofd_; first | exact h_ | (have e_ := (Kd.R_reads' HO_0.out).1; omega) | simpa using h_); obtain rfl := k29_openM hM12; have HP0 := Kd.R_seg HX12.out (x0 : Int) (ofd_) (by have h_ : (x0 : Int) < ((x1.length : Int) : Int) := ofd_; first | exact h_ | (have e_ := (Kd.R_reads' HO_0.out).1; omega) | simpa using h_) (seg := [.int .u64 t0, .int .u64 t1, .int .u64 t2, .int .u64 t3]) (j := 0) hcl12 hcc12 (show 4 ≤ 4 from by decide) (x' := (⟨t0, t1, t2, t3⟩ : S29)) (k29_mkM _ _ _ (⟨t0, t1, t2, t3⟩ : S29) ) (fun _ hk => hk); have hx4 := hcc12 0 _ rfl; (try simp only [show (k29).sz = 4 from rfl, Nat.mul_one, Nat.add_zero] at hx4); have hf12_0 := hfr12 0; (try simp only [show (k29).sz = 4 from rfl, Nat.mul_one, Nat.add_zero] at hf12_0); have hx5 := hcc12 1 _ rfl; (try simp only [show (k29).sz = 4 from rfl, Nat.mul_one, Nat.add_zero] at hx5); have hf12_1 := hfr12 1; (try simp only [show (k29).sz = 4 from rfl, Nat.mul_one, Nat.add_zero] at hf12_1); have hx6 := hcc12 2 _ rfl; (try simp only [show (k29).sz = 4 from rfl, Nat.mul_one, Nat.add_zero] at hx6); have hf12_2 := hfr12 2; (try simp only [show (k29).sz = 4 from rfl, Nat.mul_one, Nat.add_zero] at hf12_2); have hx7 := hcc12 3 _ rfl; (try simp only [show (k29).sz = 4 from rfl, Nat.mul_one, Nat.add_zero] at hx7); have hf12_3 := hfr12 3; (try simp only [show (k29).sz = 4 from rfl, Nat.mul_one, Nat.add_zero] at hf12_3); clear hcl12 hcc12 hfr12 hM12) | ((with_reducible refine gate_store (t := 29) (p := 21) rfl ?_); refine store_event (t := 29) (p := 21) (v := ?vo_w13) (w1 := ((((w1.setCell ⟨go10, (x0 : Int).toNat * 4, none⟩ (.int .u64 t0)).setCell ⟨go10, (x0 : Int).toNat * 4 + 1, none⟩ (.int .u64 t1)).setCell ⟨go10, (x0 : Int).toNat * 4 + 2, none⟩ (.int .u64 t2)).setCell ⟨go10, (x0 : Int).toNat * 4 + 3, none⟩ (.int .u64 t3))) ?hg ?ho ?hn ?hr ?_; (case ho => rfl); (case hg => rfl); (case hn => rfl); (case hr => first | (go_simp; done) | (go_simp; rfl)); intro w2 hw; have hg : w1.grownBy w2 (some go10) := (by rw [hw]; exact HP0.2); have hp_ : Kd.R k29 29 w2 w.heap.size (fun _ => True) (.slice (some ⟨go10, 0, none⟩) x1.length co0) y0 := (by rw [hw, Ny1.out]; exact HP0.1); clear HP0; replace HO_0 := a_ (hp_); replace HB := a_ ((by rw [hw]; exact below_set (below_set (below_set (below_set (HB.out) GB10.out) GB10.out) GB10.out) GB10.out : Below w.heap.size w w2)); clear hg hw hp_))
    go_roundg k1
    case measure => have := HK1.out; omega
    case rel => exact ⟨(y0), (wrap64 (x0 + 1)), rl_, H', ⟨by have := HK1.out; omega⟩, ⟨kdU_ HO_0.out⟩, ⟨bel_⟩⟩
   ·rw [if_neg c6] at H
    have c14 := decide_eq_false c6
    clear c6
    obtain rfl := Option.some.inj H
    go_wp2
    go_ret
    exact ⟨_, rfl_, uR_ HO_0.out, bel_⟩
end
section
def laws_eqDigest.f (a0 a1 a2 a3 a4 a5 a6 a7 : Int) : Option (Bool) := if a0 = a4 then (if a1 = a5 then (if a2 = a6 then (if a3 = a7 then (some true) else (some false)) else (some false)) else (some false)) else (some false)
theorem laws_eqDigest.calls (a0 a1 a2 a3 a4 a5 a6 a7 : Int) (r : Bool) (w : World) (h : laws_eqDigest.f a0 a1 a2 a3 a4 a5 a6 a7 = some r) :
  Calls Try.prog 45 #[.agg #[.int .u64 a0, .int .u64 a1, .int .u64 a2, .int .u64 a3], .agg #[.int .u64 a4, .int .u64 a5, .int .u64 a6, .int .u64 a7]] w fun e w' => e = .returned (.bool r) ∧ Below w.heap.size w w' := by
 have hu29 := Try.underlying29
 have HB := rB_ w
 have H := h
 unfold laws_eqDigest.f at H
 clear h
 by_cases c3 : a0 = a4
 ·rw [if_pos c3] at H
  have c0 := beq_iff_eq.mpr c3
  have c1 := bne_eq_false_iff_eq.mpr c3
  clear c3
  by_cases c4 : a1 = a5
  ·rw [if_pos c4] at H
   have c11 := beq_iff_eq.mpr c4
   have c12 := bne_eq_false_iff_eq.mpr c4
   clear c4
   by_cases c5 : a2 = a6
   ·rw [if_pos c5] at H
    have c13 := beq_iff_eq.mpr c5
    have c14 := bne_eq_false_iff_eq.mpr c5
    clear c5
    by_cases c6 : a3 = a7
    ·rw [if_pos c6] at H
     have c15 := beq_iff_eq.mpr c6
     have c16 := bne_eq_false_iff_eq.mpr c6
     clear c6
     obtain rfl := Option.some.inj H
     go_enter Try.func45, Try.ntmps45
     go_wp2_with (first | (refine bx_ 2 #[.int .u64 a0, .int .u64 a1, .int .u64 a2, .int .u64 a3] 29 ?_; intro gb0 w10 hg hb BK0 GW0; replace HB := s_ hb; clear hb hg) | (refine bx_ 3 #[.int .u64 a4, .int .u64 a5, .int .u64 a6, .int .u64 a7] 29 ?_; intro gb1 w8 hg hb BK1 GW1; replace HB := s_ hb; obtain ⟨NB0, NB1⟩ := ne2_ BK0.out hg; replace BK0 := bb_ BK0.out hb; clear hb hg; have hnb4 := NB0.out; have hnc4 := NB1.out; obtain ⟨z0, z1, z2, z3, f0, f1, f2, f3⟩ := cz4_ BK0.out; obtain ⟨z4, z5, z6, z7, f4, f5, f6, f7⟩ := cz4_ BK1.out))
     go_ret
     exact ⟨rfl_, bel_⟩
    ·rw [if_neg c6] at H
     have c15 := beq_eq_false_iff_ne.mpr c6
     have c16 := bne_iff_ne.mpr c6
     obtain rfl := Option.some.inj H
     go_enter Try.func45, Try.ntmps45
     go_wp2_with (first | (refine bx_ 2 #[.int .u64 a0, .int .u64 a1, .int .u64 a2, .int .u64 a3] 29 ?_; intro gb0 w1 hg hb BK0 GW0; replace HB := s_ hb; clear hb hg) | (refine bx_ 3 #[.int .u64 a4, .int .u64 a5, .int .u64 a6, .int .u64 a7] 29 ?_; intro gb1 w2 hg hb BK1 GW1; replace HB := s_ hb; obtain ⟨NB0, NB1⟩ := ne2_ BK0.out hg; replace BK0 := bb_ BK0.out hb; clear hb hg; have hnb0 := NB0.out; have hnc0 := NB1.out; obtain ⟨z8, z9, z10, z11, f8, f9, f10, f11⟩ := cz4_ BK0.out; obtain ⟨z12, z13, z14, z15, f12, f13, f14, f15⟩ := cz4_ BK1.out))
     go_ret
     exact ⟨rfl_, bel_⟩
   ·rw [if_neg c5] at H
    have c13 := beq_eq_false_iff_ne.mpr c5
    have c14 := bne_iff_ne.mpr c5
    obtain rfl := Option.some.inj H
    go_enter Try.func45, Try.ntmps45
    go_wp2_with (first | (refine bx_ 2 #[.int .u64 a0, .int .u64 a1, .int .u64 a2, .int .u64 a3] 29 ?_; intro gb0 w3 hg hb BK0 GW0; replace HB := s_ hb; clear hb hg) | (refine bx_ 3 #[.int .u64 a4, .int .u64 a5, .int .u64 a6, .int .u64 a7] 29 ?_; intro gb1 w4 hg hb BK1 GW1; replace HB := s_ hb; obtain ⟨NB0, NB1⟩ := ne2_ BK0.out hg; replace BK0 := bb_ BK0.out hb; clear hb hg; have hnb1 := NB0.out; have hnc1 := NB1.out; obtain ⟨z16, z17, z18, z19, f16, f17, f18, f19⟩ := cz4_ BK0.out; obtain ⟨z20, z21, z22, z23, f20, f21, f22, f23⟩ := cz4_ BK1.out))
    go_ret
    exact ⟨rfl_, bel_⟩
  ·rw [if_neg c4] at H
   have c11 := beq_eq_false_iff_ne.mpr c4
   have c12 := bne_iff_ne.mpr c4
   obtain rfl := Option.some.inj H
   go_enter Try.func45, Try.ntmps45
   go_wp2_with (first | (refine bx_ 2 #[.int .u64 a0, .int .u64 a1, .int .u64 a2, .int .u64 a3] 29 ?_; intro gb0 w5 hg hb BK0 GW0; replace HB := s_ hb; clear hb hg) | (refine bx_ 3 #[.int .u64 a4, .int .u64 a5, .int .u64 a6, .int .u64 a7] 29 ?_; intro gb1 w6 hg hb BK1 GW1; replace HB := s_ hb; obtain ⟨NB0, NB1⟩ := ne2_ BK0.out hg; replace BK0 := bb_ BK0.out hb; clear hb hg; have hnb2 := NB0.out; have hnc2 := NB1.out; obtain ⟨z25, z27, z28, z30, f24, f25, f26, f27⟩ := cz4_ BK0.out; obtain ⟨z32, z33, z34, z35, f28, f29, f30, f31⟩ := cz4_ BK1.out))
   go_ret
   exact ⟨rfl_, bel_⟩
 ·rw [if_neg c3] at H
  have c0 := beq_eq_false_iff_ne.mpr c3
  have c1 := bne_iff_ne.mpr c3
  obtain rfl := Option.some.inj H
  go_enter Try.func45, Try.ntmps45
  go_wp2_with (first | (refine bx_ 2 #[.int .u64 a0, .int .u64 a1, .int .u64 a2, .int .u64 a3] 29 ?_; intro gb0 w7 hg hb BK0 GW0; replace HB := s_ hb; clear hb hg) | (refine bx_ 3 #[.int .u64 a4, .int .u64 a5, .int .u64 a6, .int .u64 a7] 29 ?_; intro gb1 w9 hg hb BK1 GW1; replace HB := s_ hb; obtain ⟨NB0, NB1⟩ := ne2_ BK0.out hg; replace BK0 := bb_ BK0.out hb; clear hb hg; have hnb3 := NB0.out; have hnc3 := NB1.out; obtain ⟨z36, z37, z38, z39, f32, f33, f34, f35⟩ := cz4_ BK0.out; obtain ⟨z40, z41, z43, z44, f36, f37, f38, f39⟩ := cz4_ BK1.out))
  go_ret
  exact ⟨rfl_, bel_⟩
end
section
def laws_eqDigestS.l0 : Nat → List (S29) → List (S29) → Int → Option (Bool)
 | 0, _, _, _ => none
 | k + 1, x1, x2, x0 => if x0 < (x1.length : Int) then (if 0 ≤ x0 then (if x0 < (x2.length : Int) then ((laws_eqDigest.f ((rd_T29 x1 x0).f0) ((rd_T29 x1 x0).f1) ((rd_T29 x1 x0).f2) ((rd_T29 x1 x0).f3) ((rd_T29 x2 x0).f0) ((rd_T29 x2 x0).f1) ((rd_T29 x2 x0).f2) ((rd_T29 x2 x0).f3)).bind fun t0 => (if t0 = true then (laws_eqDigestS.l0 k x1 x2 (wrap64 (x0 + 1))) else (some false))) else (none)) else (none)) else (some true)
def laws_eqDigestS.f (k : Nat) (l0 l1 : List (S29)) : Option (Bool) := if (l0.length : Int) = (l1.length : Int) then (laws_eqDigestS.l0 k l0 l1 0) else (some false)
def laws_eqDigestS.T6 : TT_ := (true, [([], []), ([], []), ([0, 1], [0, 1]), ([2], [2]), ([], []), ([], []), ([4, 5], [4, 5]), ([6], [6]), ([3, 7], [3, 7]), ([8], [8])])
def laws_eqDigestS.B6 : List Nat := [0, 0, 3, 7, 0, 0, 48, 112, 255, 511]
theorem laws_eqDigestS.tab6 : rtab .any (opsOf Try.f25 6) = laws_eqDigestS.T6 := by kernel_rfl
theorem laws_eqDigestS.bits6 : waitsOk laws_eqDigestS.T6.2 laws_eqDigestS.B6 = true := by kernel_rfl
theorem laws_eqDigestS.calls (k : Nat) (A0 : Option Addr) (c1 : Nat) (l0 : List (S29)) (A1 : Option Addr) (c0 : Nat) (l1 : List (S29)) (r : Bool) (w : World) (hr0 : Kd.C k29 w A0 l0.length l0) (hc0 : l0.length ≤ c1) (hr1 : Kd.C k29 w A1 l1.length l1) (hc1 : l1.length ≤ c0) (h : laws_eqDigestS.f k l0 l1 = some r) :
  Calls Try.prog 25 #[.slice A0 l0.length c1, .slice A1 l1.length c0] w fun e w' => e = .returned (.bool r) ∧ Below w.heap.size w w' := by
 have hu29 := Try.underlying29
 have HR0 := a_ hr0
 have HC0 := a_ hc0
 clear hr0 hc0
 have HR1 := a_ hr1
 have HC1 := a_ hc1
 clear hr1 hc1
 have HB := rB_ w
 have H := h
 unfold laws_eqDigestS.f at H
 clear h
 by_cases c3 : (l0.length : Int) = (l1.length : Int)
 ·rw [if_pos c3] at H
  have c11 := beq_iff_eq.mpr c3
  have c12 := bne_eq_false_iff_eq.mpr c3
  have c13 : (l0.length == l1.length) = true := by first | simpa using c3 | (simp at c3 ⊢; omega)
  clear c3
  have H' := a_ H
  clear H
  go_enter Try.func25, Try.ntmps25
  go_wp2
  go_loopg [5] k (fun kq v0 w' => ∃ (x0 : Int), v0 = .int .i64 x0 ∧ Aside0 (laws_eqDigestS.l0 kq l0 l1 x0 = some r) ∧ Aside0 (kq ≤ k) ∧ Aside0 (Below w.heap.size w w'))
  case atStart => exact ⟨(0), rl_, H', ⟨Nat.le_refl _⟩, ⟨bel_⟩⟩
  case round =>
   clear H'
   (try clear c0); (try clear c3); (try clear c11); (try clear c12); (try clear c13)
   obtain ⟨x0, rfl, HA, HK1, HB⟩ := hrel
   cases gk with
   | zero => exact absurd HA.out (by simp [laws_eqDigestS.l0])
   | succ k1 =>
    have H := HA.out
    clear HA
    simp only [laws_eqDigestS.l0] at H
    by_cases c4 : x0 < (l0.length : Int)
    ·rw [if_pos c4] at H
     have c14 := decide_eq_true c4
     clear c4
     obtain ⟨c15, H⟩ := ifd_ H
     obtain ⟨c16, H⟩ := ifd_ H
     obtain ⟨t0, A2, H⟩ := bnd_ H
     by_cases c8 : t0 = true
     ·subst c8
      rw [if_pos rfl] at H
      have H' := a_ H
      clear H
      try go_wp2
      replace HB := a_ (below_drew1 HB.out)
      have p0 : 0 ≤ (x0 : Int) := ofd_
      have q0 : x0 < (l0.length : Int) := ofd_
      obtain ⟨ad0, e0, hx0, hx1, hx2, hx3⟩ := at_T29 HR0.out x0 p0 q0
      have hw3 := hx3
      have hw2 := hx2
      have hw1 := hx1
      have hw0 := hx0
      cases e0
      replace hx0 := pc_ HB.out hx0
      replace hx1 := pc_ HB.out hx1
      replace hx2 := pc_ HB.out hx2
      replace hx3 := pc_ HB.out hx3
      replace p0 := eq_true p0
      replace q0 := eq_true q0
      have p1 : 0 ≤ (x0 : Int) := ofd_
      have q1 : x0 < (l1.length : Int) := ofd_
      obtain ⟨ad1, e1, hx4, hx5, hx6, hx7⟩ := at_T29 HR1.out x0 p1 q1
      have hw7 := hx7
      have hw6 := hx6
      have hw5 := hx5
      have hw4 := hx4
      cases e1
      replace hx4 := pc_ HB.out hx4
      replace hx5 := pc_ HB.out hx5
      replace hx6 := pc_ HB.out hx6
      replace hx7 := pc_ HB.out hx7
      replace p1 := eq_true p1
      replace q1 := eq_true q1
      refine start_ (n := 10) (S := fun w' => w'.cell? (ad0.add ((x0).toNat * 4)) = some (.int .u64 ((rd_T29 l0 x0).f0)) ∧ w'.cell? ⟨(ad0.add ((x0).toNat * 4)).block, (ad0.add ((x0).toNat * 4)).off + 1, none⟩ = some (.int .u64 ((rd_T29 l0 x0).f1)) ∧ w'.cell? ⟨(ad0.add ((x0).toNat * 4)).block, (ad0.add ((x0).toNat * 4)).off + 2, none⟩ = some (.int .u64 ((rd_T29 l0 x0).f2)) ∧ w'.cell? ⟨(ad0.add ((x0).toNat * 4)).block, (ad0.add ((x0).toNat * 4)).off + 3, none⟩ = some (.int .u64 ((rd_T29 l0 x0).f3)) ∧ w'.cell? (ad1.add ((x0).toNat * 4)) = some (.int .u64 ((rd_T29 l1 x0).f0)) ∧ w'.cell? ⟨(ad1.add ((x0).toNat * 4)).block, (ad1.add ((x0).toNat * 4)).off + 1, none⟩ = some (.int .u64 ((rd_T29 l1 x0).f1)) ∧ w'.cell? ⟨(ad1.add ((x0).toNat * 4)).block, (ad1.add ((x0).toNat * 4)).off + 2, none⟩ = some (.int .u64 ((rd_T29 l1 x0).f2)) ∧ w'.cell? ⟨(ad1.add ((x0).toNat * 4)).block, (ad1.add ((x0).toNat * 4)).off + 3, none⟩ = some (.int .u64 ((rd_T29 l1 x0).f3))) (ds := []) #[false, false, false, false, false, false, false, false, false, false] (by kernel_rfl) rfl rfl ⟨(pc_ HB.out hw0), (pc_ HB.out hw1), (pc_ HB.out hw2), (pc_ HB.out hw3), (pc_ HB.out hw4), (pc_ HB.out hw5), (pc_ HB.out hw6), (pc_ HB.out hw7)⟩ (fun hHeld => ?_); refine with_tabW laws_eqDigestS.tab6 laws_eqDigestS.bits6 (fun HT HW_ => ?_)
      generalize wr.drew = w4 at HB hx0 hx1 hx2 hx3 hx4 hx5 hx6 hx7 hHeld ⊢
      refine qP_ 0 17 10 1 ?_
      refine qP_ 1 18 10 3 ?_
      refine qP_ 2 19 10 7 ?_
      refine qP_ 4 21 10 23 ?_
      refine qP_ 5 22 10 55 ?_
      refine qP_ 6 23 10 119 ?_
      refine qT_ 3 20 10 127 ?_
      refine qT_ 7 24 10 255 ?_
      refine oneP_ 8 (some 25) (b_ 10 511) HT (fun K hK => ?_)
      refine goN_ Try.func45 #[.agg #[.int .u64 ((rd_T29 l0 x0).f0), .int .u64 ((rd_T29 l0 x0).f1), .int .u64 ((rd_T29 l0 x0).f2), .int .u64 ((rd_T29 l0 x0).f3)], .agg #[.int .u64 ((rd_T29 l1 x0).f0), .int .u64 ((rd_T29 l1 x0).f1), .int .u64 ((rd_T29 l1 x0).f2), .int .u64 ((rd_T29 l1 x0).f3)]] ?_
      with_reducible refine (laws_eqDigest.calls _ _ _ _ _ _ _ _ _ _ A2.out).mono ?_
      rintro e w1 ⟨rfl, hb⟩
      refine ⟨_, rfl, ?_⟩
      replace HB := s_ hb
      (try clear hb)
      refine hK.out _ _ ⟨(pc_ HB.out hw0), (pc_ HB.out hw1), (pc_ HB.out hw2), (pc_ HB.out hw3), (pc_ HB.out hw4), (pc_ HB.out hw5), (pc_ HB.out hw6), (pc_ HB.out hw7)⟩ (fun hHeld => ?_)
      clear hK K
      refine normP_ (some 25) ?_
      refine qP_ 9 26 10 1023 ?_
      refine done_ (done_of HT.out (by kernel_rfl)) ?_
      try go_wp2
      go_roundg k1
      case measure => have := HK1.out; omega
      case rel => exact ⟨(wrap64 (x0 + 1)), rl_, H', ⟨by have := HK1.out; omega⟩, ⟨bel_⟩⟩
     ·replace c8 := Bool.eq_false_iff.mpr c8
      subst c8
      rw [if_neg (show ¬ (false = true) by decide)] at H
      obtain rfl := Option.some.inj H
      try go_wp2
      replace HB := a_ (below_drew1 HB.out)
      have p0 : 0 ≤ (x0 : Int) := ofd_
      have q0 : x0 < (l0.length : Int) := ofd_
      obtain ⟨ad0, e0, hx0, hx1, hx2, hx3⟩ := at_T29 HR0.out x0 p0 q0
      have hw3 := hx3
      have hw2 := hx2
      have hw1 := hx1
      have hw0 := hx0
      cases e0
      replace hx0 := pc_ HB.out hx0
      replace hx1 := pc_ HB.out hx1
      replace hx2 := pc_ HB.out hx2
      replace hx3 := pc_ HB.out hx3
      replace p0 := eq_true p0
      replace q0 := eq_true q0
      have p1 : 0 ≤ (x0 : Int) := ofd_
      have q1 : x0 < (l1.length : Int) := ofd_
      obtain ⟨ad1, e1, hx4, hx5, hx6, hx7⟩ := at_T29 HR1.out x0 p1 q1
      have hw7 := hx7
      have hw6 := hx6
      have hw5 := hx5
      have hw4 := hx4
      cases e1
      replace hx4 := pc_ HB.out hx4
      replace hx5 := pc_ HB.out hx5
      replace hx6 := pc_ HB.out hx6
      replace hx7 := pc_ HB.out hx7
      replace p1 := eq_true p1
      replace q1 := eq_true q1
      refine start_ (n := 10) (S := fun w' => w'.cell? (ad0.add ((x0).toNat * 4)) = some (.int .u64 ((rd_T29 l0 x0).f0)) ∧ w'.cell? ⟨(ad0.add ((x0).toNat * 4)).block, (ad0.add ((x0).toNat * 4)).off + 1, none⟩ = some (.int .u64 ((rd_T29 l0 x0).f1)) ∧ w'.cell? ⟨(ad0.add ((x0).toNat * 4)).block, (ad0.add ((x0).toNat * 4)).off + 2, none⟩ = some (.int .u64 ((rd_T29 l0 x0).f2)) ∧ w'.cell? ⟨(ad0.add ((x0).toNat * 4)).block, (ad0.add ((x0).toNat * 4)).off + 3, none⟩ = some (.int .u64 ((rd_T29 l0 x0).f3)) ∧ w'.cell? (ad1.add ((x0).toNat * 4)) = some (.int .u64 ((rd_T29 l1 x0).f0)) ∧ w'.cell? ⟨(ad1.add ((x0).toNat * 4)).block, (ad1.add ((x0).toNat * 4)).off + 1, none⟩ = some (.int .u64 ((rd_T29 l1 x0).f1)) ∧ w'.cell? ⟨(ad1.add ((x0).toNat * 4)).block, (ad1.add ((x0).toNat * 4)).off + 2, none⟩ = some (.int .u64 ((rd_T29 l1 x0).f2)) ∧ w'.cell? ⟨(ad1.add ((x0).toNat * 4)).block, (ad1.add ((x0).toNat * 4)).off + 3, none⟩ = some (.int .u64 ((rd_T29 l1 x0).f3))) (ds := []) #[false, false, false, false, false, false, false, false, false, false] (by kernel_rfl) rfl rfl ⟨(pc_ HB.out hw0), (pc_ HB.out hw1), (pc_ HB.out hw2), (pc_ HB.out hw3), (pc_ HB.out hw4), (pc_ HB.out hw5), (pc_ HB.out hw6), (pc_ HB.out hw7)⟩ (fun hHeld => ?_); refine with_tabW laws_eqDigestS.tab6 laws_eqDigestS.bits6 (fun HT HW_ => ?_)
      generalize wr.drew = w2 at HB hx0 hx1 hx2 hx3 hx4 hx5 hx6 hx7 hHeld ⊢
      refine qP_ 0 17 10 1 ?_
      refine qP_ 1 18 10 3 ?_
      refine qP_ 2 19 10 7 ?_
      refine qP_ 4 21 10 23 ?_
      refine qP_ 5 22 10 55 ?_
      refine qP_ 6 23 10 119 ?_
      refine qT_ 3 20 10 127 ?_
      refine qT_ 7 24 10 255 ?_
      refine oneP_ 8 (some 25) (b_ 10 511) HT (fun K hK => ?_)
      refine goN_ Try.func45 #[.agg #[.int .u64 ((rd_T29 l0 x0).f0), .int .u64 ((rd_T29 l0 x0).f1), .int .u64 ((rd_T29 l0 x0).f2), .int .u64 ((rd_T29 l0 x0).f3)], .agg #[.int .u64 ((rd_T29 l1 x0).f0), .int .u64 ((rd_T29 l1 x0).f1), .int .u64 ((rd_T29 l1 x0).f2), .int .u64 ((rd_T29 l1 x0).f3)]] ?_
      with_reducible refine (laws_eqDigest.calls _ _ _ _ _ _ _ _ _ _ A2.out).mono ?_
      rintro e w3 ⟨rfl, hb⟩
      refine ⟨_, rfl, ?_⟩
      replace HB := s_ hb
      (try clear hb)
      refine hK.out _ _ ⟨(pc_ HB.out hw0), (pc_ HB.out hw1), (pc_ HB.out hw2), (pc_ HB.out hw3), (pc_ HB.out hw4), (pc_ HB.out hw5), (pc_ HB.out hw6), (pc_ HB.out hw7)⟩ (fun hHeld => ?_)
      clear hK K
      refine normP_ (some 25) ?_
      refine qP_ 9 26 10 1023 ?_
      refine done_ (done_of HT.out (by kernel_rfl)) ?_
      try go_wp2
      go_ret
      exact ⟨rfl_, bel_⟩
    ·rw [if_neg c4] at H
     have c14 := decide_eq_false c4
     clear c4
     obtain rfl := Option.some.inj H
     go_wp2
     go_ret
     exact ⟨rfl_, bel_⟩
 ·rw [if_neg c3] at H
  have c11 := beq_eq_false_iff_ne.mpr c3
  have c12 := bne_iff_ne.mpr c3
  have c13 : (l0.length == l1.length) = false := by first | simpa using c3 | (simp at c3 ⊢; omega)
  obtain rfl := Option.some.inj H
  go_enter Try.func25, Try.ntmps25
  go_wp2
  go_ret
  exact ⟨rfl_, bel_⟩
end
end Go.Proofs.Ytflckegggopdnaa.B
