/- Texts that this claim's law leans on, without what nothing names. What each says stands at its theorems; conditions stand in them. (Put together by the session's program shake.py; Lean checks it.) -/
import Derived.Test.YtflckegggopdnaaZCCP0
import Derived.Test.YtflckegggopdnaaZCCP2
import Derived.Test.YtflckegggopdnaaZCCP9
import Derived.Test.YtflckegggopdnaaZCCP4
import Derived.Test.YtflckegggopdnaaZCCP6
import Derived.Test.YtflckegggopdnaaZCCP8
import Derived.Test.YtflckegggopdnaaZCCGSpecHash1
import Derived.Test.YtflckegggopdnaaZCCP14
import Derived.Test.YtflckegggopdnaaZCCP12
set_option linter.unusedVariables false
set_option maxHeartbeats 8000000
set_option maxRecDepth 100000
set_option linter.unusedSimpArgs false
namespace Go.Proofs.Ytflckegggopdnaa.B
section
open Go.RowKit Go.Proofs.YtflckegggopdnaaW
section
def laws_toGrowthS.l0 : Nat → List (S42) → List (S51) → Int → Option ((List (S51)))
 | 0, _, _, _ => none
 | k + 1, x1, x2, x0 => if x0 < (x1.length : Int) then (if 0 ≤ x0 then ((laws_toGrowth.f k ((rd_T42 x1 x0).f0.f0) ((rd_T42 x1 x0).f0.f1.f0) ((rd_T42 x1 x0).f0.f1.f1) ((rd_T42 x1 x0).f0.f1.f2) ((rd_T42 x1 x0).f0.f1.f3) ((rd_T42 x1 x0).f1)).bind fun bt0 => (if x0 < (x2.length : Int) then (laws_toGrowthS.l0 k x1 (x2.set (x0 : Int).toNat (⟨(⟨bt0.1, (⟨bt0.2.1, bt0.2.2.1, bt0.2.2.2.1, bt0.2.2.2.2.1⟩ : S29)⟩ : S31), bt0.2.2.2.2.2⟩ : S51)) (wrap64 (x0 + 1))) else (none))) else (none)) else (some x2)
def laws_toGrowthS.f (k : Nat) (l0 : List (S42)) : Option ((List (S51))) := if 0 ≤ (l0.length : Int) then (if ((l0.length : Int) : Int).toNat ≤ 4398046511104 then (laws_toGrowthS.l0 k l0 (List.replicate ((l0.length : Int) : Int).toNat z51) 0) else (none)) else (none)
theorem laws_toGrowthS.calls (k : Nat) (A0 : Option Addr) (c0 : Nat) (l0 : List (S42)) (r : List (S51)) (w : World) (hr0 : Kd.C k42 w A0 l0.length l0) (hc0 : l0.length ≤ c0) (h : laws_toGrowthS.f k l0 = some r) :
  Calls Try.prog 13 #[.slice A0 l0.length c0] w fun e w' => ∃ v0_ : Value, e = .returned (v0_) ∧ Kd.S k51 51 w' w.heap.size (fun _ => True) v0_ r ∧ Below w.heap.size w w' := by
 have hu42 := Try.underlying42
 have hu51 := Try.underlying51
 have HR0 := a_ hr0
 have HC0 := a_ hc0
 clear hr0 hc0
 have HB := rB_ w
 have H := h
 unfold laws_toGrowthS.f at H
 clear h
 obtain ⟨c2, H⟩ := ifn_ H
 have c11 := eq_true c2
 have c12 := decide_eq_true c2
 clear c2
 obtain ⟨c3, H⟩ := ifn_ H
 have c13 := eq_true c3
 have c14 := decide_eq_true c3
 clear c3
 obtain ⟨y1, hy0⟩ : ∃ y_ : List (S51), y_ = (List.replicate ((l0.length : Int) : Int).toNat z51) := ⟨_, rfl⟩
 replace H : (laws_toGrowthS.l0 k l0 y1 0) = some r := rpl_ hy0 H
 have Ny0 := a_ hy0
 clear hy0
 have H' := a_ H
 clear H
 go_enter Try.func13, Try.ntmps13
 go_wp2_with (first | ((with_reducible refine gate_dst (N := 7) rfl ?_); refine Kd.S_make k51 _ 51 rfl (N := 7) rfl 35 _ _ rfl (l0.length : Int) rfl rfl Try.underlying35 (.agg #[(.int .i64 0), (.int .u64 0), (.int .u64 0), (.int .u64 0), (.int .u64 0), (.slice none 0 0)]) 64 info51 rfl (by decide) (by omega) z51 (ok := fun _ => True) (okp := fun _ => True) (k51_mkM _ _ _ z51 (Kd.R_nil _ _ _ _ _)) (fun _ hk => hk) trivial (ofd_) (Nat.le_trans (Nat.mul_le_mul_right _ (ofd_ : (l0.length : Int).toNat ≤ 4398046511104)) (by omega)) (Below.refl _ _) (Nat.le_refl _) ?_; intro v1 w3 ho0 hb hg_ hnew_; clear hg_ hnew_; (first | rw [← Ny0.out] at ho0 | (simp only [Int.reduceToNat] at ho0; rw [← Ny0.out] at ho0)); have HO1 := a_ (Kd.S_lower ho0 (below_size bel_)); replace HB := s_ hb; clear hb ho0))
 go_loopg [4] k (fun kq v2 w' => ∃ (x1 : List (S51)) (x0 : Int), v2 = .int .i64 x0 ∧ Aside0 (laws_toGrowthS.l0 kq l0 x1 x0 = some r) ∧ Aside0 (kq ≤ k) ∧ Aside0 (Kd.S k51 51 w' w.heap.size (fun _ => True) v1 x1) ∧ Aside0 (Below w.heap.size w w'))
 case atStart => exact ⟨(y1), (0), rl_, H', ⟨Nat.le_refl _⟩, ⟨uS_ HO1.out⟩, ⟨bel_⟩⟩
 case round =>
  clear H'
  (try clear c2); (try clear c11); (try clear c12); (try clear c3); (try clear c13); (try clear c14)
  obtain ⟨x1, x0, rfl, HA, HK1, HO_0, HB⟩ := hrel
  cases gk with
  | zero => exact absurd HA.out (by simp [laws_toGrowthS.l0])
  | succ k1 =>
   have H := HA.out
   clear HA
   simp only [laws_toGrowthS.l0] at H
   by_cases c6 : x0 < (l0.length : Int)
   ·rw [if_pos c6] at H
    have c15 := decide_eq_true c6
    clear c6
    obtain ⟨c16, H⟩ := ifd_ H
    obtain ⟨⟨t0, t1, t2, t3, t4, t5⟩, A2, H⟩ := bnd_ H
    dsimp only at H
    obtain ⟨c17, H⟩ := ifd_ H
    obtain ⟨y0, hy1⟩ : ∃ y_ : List (S51), y_ = (x1.set (x0 : Int).toNat (⟨(⟨t0, (⟨t1, t2, t3, t4⟩ : S29)⟩ : S31), t5⟩ : S51)) := ⟨_, rfl⟩
    replace H : (laws_toGrowthS.l0 k1 l0 y0 (wrap64 (x0 + 1))) = some r := rpl_ hy1 H
    have Ny1 := a_ hy1
    clear hy1
    have H' := a_ H
    clear H
    have p1 : 0 ≤ (x0 : Int) := ofd_
    have q1 : x0 < (l0.length : Int) := ofd_
    obtain ⟨ad0, A1, c1, e0, hx0, hx1, hx2, hx3, hx4, hx5, hl0, hi0⟩ := at_T42 HR0.out x0 p1 q1
    cases e0
    replace hx0 := pc_ HB.out hx0
    replace hx1 := pc_ HB.out hx1
    replace hx2 := pc_ HB.out hx2
    replace hx3 := pc_ HB.out hx3
    replace hx4 := pc_ HB.out hx4
    replace hx5 := pc_ HB.out hx5
    have HR266_5 := a_ hi0
    have HC266_5 := a_ hl0
    clear hi0 hl0
    replace p1 := eq_true p1
    replace q1 := eq_true q1
    go_wp2_with (first | (refine gcL_ 20 (some 20) Try.func20 #[.agg #[.int .i64 ((rd_T42 l0 x0).f0.f0), .int .u64 ((rd_T42 l0 x0).f0.f1.f0), .int .u64 ((rd_T42 l0 x0).f0.f1.f1), .int .u64 ((rd_T42 l0 x0).f0.f1.f2), .int .u64 ((rd_T42 l0 x0).f0.f1.f3), .slice A1 ((rd_T42 l0 x0).f1).length c1]] ?_; (with_reducible refine (laws_toGrowth.calls _ _ _ _ _ _ _ _ _ _ _ _ _ _ _ _ ?side1 ?side2 A2.out).mono ?_); (case side1 => exact cU_ (Kd.C_below HR266_5.out HB.out)); (case side2 => exact HC266_5.out); rintro e w1 ⟨v0, rfl, ho1, hb⟩; refine ⟨_, rfl, ?_⟩; replace HO_0 := a_ (Kd.S_elder' (uS_ HO_0.out) (Kd.R_base ho1) hb); have HO0 := a_ (Kd.R_lower ho1 (below_size bel_)); replace HB := s_ hb; clear hb; (try clear ho1); have p0 : 0 ≤ (x0 : Int) := ofd_; have q0 : (x0 : Int) < ((x1.length : Int) : Int) := ofd_; obtain ⟨go10, co0, eo0, gb0, gl10, cl10, HG10⟩ := Kd.S_form HO_0.out (by omega); (first | cases eo0 | (injection eo0 with ea_ en_ ec_; (first | subst ea_ | (injection ea_ with ea_; subst ea_)); subst ec_; clear en_)); have GB10 := a_ gb0; have GG10 := a_ HG10; clear gb0 gl10 HG10; obtain ⟨_, ce10, hcl10, hM10, hcc10, hfr10, _, _⟩ := Kd.S_elem HO_0.out z51 (x0 : Int) p0 q0; obtain ⟨ve10_5, rfl, ge10_5⟩ := k51_openM hM10; have hx12 : w1.cell? ⟨go10, (x0 : Int).toNat * 6, none⟩ = some (.int .i64 ((rd_T51 x1 x0).f0.f0)) := hcc10 0 _ rfl; have hx13 : w1.cell? ⟨go10, (x0 : Int).toNat * 6 + 1, none⟩ = some (.int .u64 ((rd_T51 x1 x0).f0.f1.f0)) := hcc10 1 _ rfl; have hx14 : w1.cell? ⟨go10, (x0 : Int).toNat * 6 + 2, none⟩ = some (.int .u64 ((rd_T51 x1 x0).f0.f1.f1)) := hcc10 2 _ rfl; have hx15 : w1.cell? ⟨go10, (x0 : Int).toNat * 6 + 3, none⟩ = some (.int .u64 ((rd_T51 x1 x0).f0.f1.f2)) := hcc10 3 _ rfl; have hx16 : w1.cell? ⟨go10, (x0 : Int).toNat * 6 + 4, none⟩ = some (.int .u64 ((rd_T51 x1 x0).f0.f1.f3)) := hcc10 4 _ rfl; have hx17 : w1.cell? ⟨go10, (x0 : Int).toNat * 6 + 5, none⟩ = some (ve10_5) := hcc10 5 _ rfl; have hf10_0 : w1.frozen? ⟨go10, (x0 : Int).toNat * 6, none⟩ = false := hfr10 0; have hf10_1 : w1.frozen? ⟨go10, (x0 : Int).toNat * 6 + 1, none⟩ = false := hfr10 1; have hf10_2 : w1.frozen? ⟨go10, (x0 : Int).toNat * 6 + 2, none⟩ = false := hfr10 2; have hf10_3 : w1.frozen? ⟨go10, (x0 : Int).toNat * 6 + 3, none⟩ = false := hfr10 3; have hf10_4 : w1.frozen? ⟨go10, (x0 : Int).toNat * 6 + 4, none⟩ = false := hfr10 4; have hf10_5 : w1.frozen? ⟨go10, (x0 : Int).toNat * 6 + 5, none⟩ = false := hfr10 5; clear hcl10 hcc10 hfr10 hM10; replace p0 := eq_true p0; replace q0 := eq_true q0; have n_ := a_ (Kd.S_mono (ok' := (fun k_ => some k_ ≠ (v0 : Value).ownBlock)) HO_0.out (fun k_ hk => hk.2)); clear HO_0; have HO_0 := n_; clear n_; have HX12 := a_ (show Kd.S k51 51 w1 w.heap.size (fun k_ => ((fun _ => True)) k_ ∧ ¬ ((fun k_ => some k_ = (v0 : Value).ownBlock)) k_) (.slice (some ⟨go10, 0, none⟩) x1.length co0) x1 from (uS_ (Kd.S_mono HO_0.out (fun k_ hk => ⟨trivial, fun e_ => hk e_⟩)))); obtain ⟨oki12, ce12, hcl12, hM12, hcc12, hfr12, hoki12, hH12⟩ := Kd.S_elem HX12.out z51 (x0 : Int) (ofd_) (by have h_ : (x0 : Int) < ((x1.length : Int) : Int) := ofd_; first | exact h_ | (have e_ := (Kd.S_reads' HO_0.out).1; omega) | simpa using h_); obtain ⟨ve12_5, rfl, ge12_5⟩ := k51_openM hM12; have HP0 := Kd.S_seg hH12 (ofd_) (by have h_ : (x0 : Int) < ((x1.length : Int) : Int) := ofd_; first | exact h_ | (have e_ := (Kd.S_reads' HO_0.out).1; omega) | simpa using h_) (seg := [.int .i64 t0, .int .u64 t1, .int .u64 t2, .int .u64 t3, .int .u64 t4, v0]) (j := 0) (show 6 ≤ 6 from by decide) (x' := (⟨(⟨t0, (⟨t1, t2, t3, t4⟩ : S29)⟩ : S31), t5⟩ : S51)) (k51_mkM _ _ _ (⟨(⟨t0, (⟨t1, t2, t3, t4⟩ : S29)⟩ : S31), t5⟩ : S51) (Kd.R_mono (Kd.R_tight rfl (Kd.R_mono (ok' := fun k_ => ((fun _ => True)) k_ ∧ k_ ≠ go10) (Kd.R_apart' (HO0.out) (Kd.S_typed HO_0.out) (by decide)) (fun k_ hk => ⟨trivial, fun e_ => (hk.2) (by rw [e_]; rfl)⟩))) (fun _ h_ => Or.inr (h_)))) (fun _ hk => hk) (fun k_ hk_ => ((Kd.R_mono (ok' := fun k_ => ((fun _ => True)) k_ ∧ k_ ≠ go10) (Kd.R_apart' (HO0.out) (Kd.S_typed HO_0.out) (by decide)) (fun k_ hk => ⟨trivial, fun e_ => (hk.2) (by rw [e_]; rfl)⟩))).1 k_ hk_.symm); have hx6 := hcc12 0 _ rfl; (try simp only [show (k51).sz = 6 from rfl, Nat.mul_one, Nat.add_zero] at hx6); have hf12_0 := hfr12 0; (try simp only [show (k51).sz = 6 from rfl, Nat.mul_one, Nat.add_zero] at hf12_0); have hx7 := hcc12 1 _ rfl; (try simp only [show (k51).sz = 6 from rfl, Nat.mul_one, Nat.add_zero] at hx7); have hf12_1 := hfr12 1; (try simp only [show (k51).sz = 6 from rfl, Nat.mul_one, Nat.add_zero] at hf12_1); have hx8 := hcc12 2 _ rfl; (try simp only [show (k51).sz = 6 from rfl, Nat.mul_one, Nat.add_zero] at hx8); have hf12_2 := hfr12 2; (try simp only [show (k51).sz = 6 from rfl, Nat.mul_one, Nat.add_zero] at hf12_2); have hx9 := hcc12 3 _ rfl; (try simp only [show (k51).sz = 6 from rfl, Nat.mul_one, Nat.add_zero] at hx9); have hf12_3 := hfr12 3; (try simp only [show (k51).sz = 6 from rfl, Nat.mul_one, Nat.add_zero] at hf12_3); have hx10 := hcc12 4 _ rfl; (try simp only [show (k51).sz = 6 from rfl, Nat.mul_one, Nat.add_zero] at hx10); have hf12_4 := hfr12 4; (try simp only [show (k51).sz = 6 from rfl, Nat.mul_one, Nat.add_zero] at hf12_4); have hx11 := hcc12 5 _ rfl; (try simp only [show (k51).sz = 6 from rfl, Nat.mul_one, Nat.add_zero] at hx11); have hf12_5 := hfr12 5; (try simp only [show (k51).sz = 6 from rfl, Nat.mul_one, Nat.add_zero] at hf12_5); clear hcl12 hcc12 hfr12 hM12 hoki12 hH12) | ((with_reducible refine gate_store (t := 51) (p := 21) rfl ?_); refine store_event (t := 51) (p := 21) (v := ?vo_w13) (w1 := ((((((w1.setCell ⟨go10, (x0 : Int).toNat * 6, none⟩ (.int .i64 t0)).setCell ⟨go10, (x0 : Int).toNat * 6 + 1, none⟩ (.int .u64 t1)).setCell ⟨go10, (x0 : Int).toNat * 6 + 2, none⟩ (.int .u64 t2)).setCell ⟨go10, (x0 : Int).toNat * 6 + 3, none⟩ (.int .u64 t3)).setCell ⟨go10, (x0 : Int).toNat * 6 + 4, none⟩ (.int .u64 t4)).setCell ⟨go10, (x0 : Int).toNat * 6 + 5, none⟩ (v0))) ?hg ?ho ?hn ?hr ?_; (case ho => rfl); (case hg => rfl); (case hn => rfl); (case hr => obtain ⟨Av_, cv_, ev_⟩ := Kd.R_slice HO0.out; subst ev_; first | (go_simp; done) | (go_simp; rfl)); intro w2 hw; have hg : w1.grownBy w2 (some go10) := (by rw [hw]; exact HP0.2); have hp_ : Kd.S k51 51 w2 w.heap.size (fun _ => True) (.slice (some ⟨go10, 0, none⟩) x1.length co0) y0 := (by rw [hw, Ny1.out]; exact HP0.1); clear HP0; replace HO_0 := a_ (hp_); replace HB := a_ ((by rw [hw]; exact below_set (below_set (below_set (below_set (below_set (below_set (HB.out) GB10.out) GB10.out) GB10.out) GB10.out) GB10.out) GB10.out : Below w.heap.size w w2)); clear HO0; clear hg hw hp_))
    go_roundg k1
    case measure => have := HK1.out; omega
    case rel => exact ⟨(y0), (wrap64 (x0 + 1)), rl_, H', ⟨by have := HK1.out; omega⟩, ⟨uS_ HO_0.out⟩, ⟨bel_⟩⟩
   ·rw [if_neg c6] at H
    have c15 := decide_eq_false c6
    clear c6
    obtain rfl := Option.some.inj H
    go_wp2
    go_ret
    exact ⟨_, rfl_, uS_ HO_0.out, bel_⟩
end
section
def spec_l3Node.f : Nat → Int → Int → Int → Int → List (S29) → Option (Int × Int × Int × Int)
 | 0, _, _, _, _, _ => none
 | k + 1, a0, a2, a1, a3, l3 => if a0 ≥ a1 then ((spec_PeaksCount.f k a1).bind fun t0 => ((spec_l3Rests.f k 0 a3 a1 a0).bind fun t1 => (if 0 ≤ (wrap64 (t0 + t1)) then (if (wrap64 (t0 + t1)) < (l3.length : Int) then (some ((rd_T29 l3 (wrap64 (t0 + t1))).f0, (rd_T29 l3 (wrap64 (t0 + t1))).f1, (rd_T29 l3 (wrap64 (t0 + t1))).f2, (rd_T29 l3 (wrap64 (t0 + t1))).f3)) else (none)) else (none)))) else (if a2 ≤ a1 then ((spec_l3PeaksAhead.f k a1 a0).bind fun t2 => (if 0 ≤ t2 then (if t2 < (l3.length : Int) then (some ((rd_T29 l3 t2).f0, (rd_T29 l3 t2).f1, (rd_T29 l3 t2).f2, (rd_T29 l3 t2).f3)) else (none)) else (none))) else ((spec_TreeSplit.f k (wrap64 (a2 - a0))).bind fun t3 => ((spec_l3Node.f k a0 (wrap64 (a0 + t3)) a1 a3 l3).bind fun bt0 => ((spec_l3Node.f k (wrap64 (a0 + t3)) a2 a1 a3 l3).bind fun bt1 => ((spec_HashPair.f k bt0.1 bt0.2.1 bt0.2.2.1 bt0.2.2.2 bt1.1 bt1.2.1 bt1.2.2.1 bt1.2.2.2).bind fun bt2 => (some (bt2.1, bt2.2.1, bt2.2.2.1, bt2.2.2.2)))))))
theorem spec_l3Node.calls (k : Nat) : ∀ (a0 a2 a1 a3 : Int) (A0 : Option Addr) (c4 : Nat) (l3 : List (S29)) (r0 r1 r2 r3 : Int) (w : World) (hr4 : Kd.C k29 w A0 l3.length l3) (hc4 : l3.length ≤ c4) (h : spec_l3Node.f k a0 a2 a1 a3 l3 = some (r0, r1, r2, r3)),
  Calls Try.prog 74 #[.int .i64 a0, .int .i64 a2, .int .i64 a1, .int .i64 a3, .slice A0 l3.length c4] w fun e w' => e = .returned (.agg #[.int .u64 r0, .int .u64 r1, .int .u64 r2, .int .u64 r3]) ∧ Below w.heap.size w w' := by
 induction k using Nat.strongRecOn with
 | _ k ih =>
 intro a0 a2 a1 a3 A0 c4 l3 r0 r1 r2 r3 w hr4 hc4 h
 cases k with
 | zero => exact absurd h (by simp [spec_l3Node.f])
 | succ k =>
 simp only [spec_l3Node.f] at h
 have hu29 := Try.underlying29
 have HR4 := a_ hr4
 have HC4 := a_ hc4
 clear hr4 hc4
 have HB := rB_ w
 have H : (if a0 ≥ a1 then ((spec_PeaksCount.f k a1).bind fun t1 => ((spec_l3Rests.f k 0 a3 a1 a0).bind fun t2 => (if 0 ≤ (wrap64 (t1 + t2)) then (if (wrap64 (t1 + t2)) < (l3.length : Int) then (some ((rd_T29 l3 (wrap64 (t1 + t2))).f0, (rd_T29 l3 (wrap64 (t1 + t2))).f1, (rd_T29 l3 (wrap64 (t1 + t2))).f2, (rd_T29 l3 (wrap64 (t1 + t2))).f3)) else (none)) else (none)))) else (if a2 ≤ a1 then ((spec_l3PeaksAhead.f k a1 a0).bind fun t0 => (if 0 ≤ t0 then (if t0 < (l3.length : Int) then (some ((rd_T29 l3 t0).f0, (rd_T29 l3 t0).f1, (rd_T29 l3 t0).f2, (rd_T29 l3 t0).f3)) else (none)) else (none))) else ((spec_TreeSplit.f k (wrap64 (a2 - a0))).bind fun t3 => ((spec_l3Node.f k a0 (wrap64 (a0 + t3)) a1 a3 l3).bind fun bt0 => ((spec_l3Node.f k (wrap64 (a0 + t3)) a2 a1 a3 l3).bind fun bt1 => ((spec_HashPair.f k bt0.1 bt0.2.1 bt0.2.2.1 bt0.2.2.2 bt1.1 bt1.2.1 bt1.2.2.1 bt1.2.2.2).bind fun bt2 => (some (bt2.1, bt2.2.1, bt2.2.2.1, bt2.2.2.2)))))))) = some (r0, r1, r2, r3) := h
 clear h
 by_cases c6 : a0 ≥ a1
 ·rw [if_pos c6] at H
  have c11 : decide (a1 ≤ a0) = true := decide_eq_true c6
  clear c6
  obtain ⟨t1, A1, H⟩ := bnd_ H
  obtain ⟨t2, A2, H⟩ := bnd_ H
  obtain ⟨ji9, hji9⟩ : ∃ j_ : Int, (wrap64 (t1 + t2)) = j_ := ⟨_, rfl⟩
  replace H : (if 0 ≤ (ji9) then (if (ji9) < (l3.length : Int) then (some ((rd_T29 l3 (ji9)).f0, (rd_T29 l3 (ji9)).f1, (rd_T29 l3 (ji9)).f2, (rd_T29 l3 (ji9)).f3)) else (none)) else (none)) = some (r0, r1, r2, r3) := by first | (rw [hji9] at H; exact H) | (simp only [hji9] at H ⊢; exact H)
  (try rw [hji9] at A1)
  (try rw [hji9] at A2)
  have hji9w : (IntKind.i64.wrap (t1 + t2)) = ji9 := (i64_w _).trans hji9
  obtain ⟨c12, H⟩ := ifd_ H
  obtain ⟨c13, H⟩ := ifd_ H
  simp only [Option.some.injEq, Prod.mk.injEq] at H
  obtain ⟨rfl, rfl, rfl, rfl⟩ := H
  go_enter Try.func74, Try.ntmps74
  go_wp2_with (first | (refine bx_ 10 #[.int .u64 0, .int .u64 0, .int .u64 0, .int .u64 0] 29 ?_; intro gb0 w1 hg hb BK0 GW0; replace HB := s_ hb; clear hb hg) | (refine gcD_ 50 17 Try.func50 (spec_PeaksCount.calls _ _ _ _ A1.out) ?_; intro nd; (try (rw [drewN_self w1]; generalize hq_ : World.drewN w1 _ = w1; have n0_ : Aside0 (w1.heap[gb0]? = some (.cells #[.int .u64 0, .int .u64 0, .int .u64 0, .int .u64 0] 29 (0, 0))) := ⟨by rw [← hq_]; exact (blkU_ BK0.out)⟩; have n1_ : Aside0 (Below w.heap.size w w1) := ⟨by rw [← hq_]; exact bel_⟩; clear BK0 HB hq_; have BK0 := n0_; have HB := n1_; clear n0_ n1_))) | (refine gcD_ 67 21 Try.func67 (spec_l3Rests.calls _ _ _ _ _ _ _ A2.out) ?_; intro nd; (try (rw [drewN_self w1]; generalize hq_ : World.drewN w1 _ = w1; have n0_ : Aside0 (w1.heap[gb0]? = some (.cells #[.int .u64 0, .int .u64 0, .int .u64 0, .int .u64 0] 29 (0, 0))) := ⟨by rw [← hq_]; exact (blkU_ BK0.out)⟩; have n1_ : Aside0 (Below w.heap.size w w1) := ⟨by rw [← hq_]; exact bel_⟩; clear BK0 HB hq_; have BK0 := n0_; have HB := n1_; clear n0_ n1_)); have p0 : 0 ≤ ((ji9) : Int) := ofd_; have q0 : (ji9) < (l3.length : Int) := ofd_; obtain ⟨ad0, e0, hx0, hx1, hx2, hx3⟩ := at_T29 HR4.out (ji9) p0 q0; cases e0; replace hx0 := pc_ HB.out hx0; replace hx1 := pc_ HB.out hx1; replace hx2 := pc_ HB.out hx2; replace hx3 := pc_ HB.out hx3; replace p0 := eq_true p0; replace q0 := eq_true q0; obtain ⟨z0, z1, z2, z3, f0, f1, f2, f3⟩ := cz4_ BK0.out))
  refine bodyPost_ret (results_cell_row rfl _ _ gb0 29 #[.int .u64 ((rd_T29 l3 (ji9)).f0), .int .u64 ((rd_T29 l3 (ji9)).f1), .int .u64 ((rd_T29 l3 (ji9)).f2), .int .u64 ((rd_T29 l3 (ji9)).f3)] (0, 0) _ rfl (blkF_ BK0.out) Try.underlying29 rfl (by kernel_rfl)) rfl ?_
  exact ⟨by first | rfl | (simp [errW_none, errW_some] <;> rfl) | (simp only [← hji9]; first | rfl | (simp [errW_none, errW_some] <;> rfl)) | (simp [*, errW_none, errW_some] <;> rfl), bel_⟩
 ·rw [if_neg c6] at H
  have c11 : decide (a1 ≤ a0) = false := decide_eq_false c6
  clear c6
  by_cases c0 : a2 ≤ a1
  ·rw [if_pos c0] at H
   have c1 := decide_eq_true c0
   clear c0
   obtain ⟨t0, A3, H⟩ := bnd_ H
   obtain ⟨c14, H⟩ := ifd_ H
   obtain ⟨c15, H⟩ := ifd_ H
   simp only [Option.some.injEq, Prod.mk.injEq] at H
   obtain ⟨rfl, rfl, rfl, rfl⟩ := H
   go_enter Try.func74, Try.ntmps74
   go_wp2_with (first | (refine bx_ 10 #[.int .u64 0, .int .u64 0, .int .u64 0, .int .u64 0] 29 ?_; intro gb0 w2 hg hb BK0 GW0; replace HB := s_ hb; clear hb hg) | (refine gcD_ 120 31 Try.func120 (spec_l3PeaksAhead.calls _ _ _ _ _ A3.out) ?_; intro nd; (try (rw [drewN_self w2]; generalize hq_ : World.drewN w2 _ = w2; have n0_ : Aside0 (w2.heap[gb0]? = some (.cells #[.int .u64 0, .int .u64 0, .int .u64 0, .int .u64 0] 29 (0, 0))) := ⟨by rw [← hq_]; exact (blkU_ BK0.out)⟩; have n1_ : Aside0 (Below w.heap.size w w2) := ⟨by rw [← hq_]; exact bel_⟩; clear BK0 HB hq_; have BK0 := n0_; have HB := n1_; clear n0_ n1_)); have p1 : 0 ≤ (t0 : Int) := ofd_; have q1 : t0 < (l3.length : Int) := ofd_; obtain ⟨ad1, e1, hx4, hx5, hx6, hx7⟩ := at_T29 HR4.out t0 p1 q1; cases e1; replace hx4 := pc_ HB.out hx4; replace hx5 := pc_ HB.out hx5; replace hx6 := pc_ HB.out hx6; replace hx7 := pc_ HB.out hx7; replace p1 := eq_true p1; replace q1 := eq_true q1; obtain ⟨z4, z5, z6, z7, f4, f5, f6, f7⟩ := cz4_ BK0.out))
   refine bodyPost_ret (results_cell_row rfl _ _ gb0 29 #[.int .u64 ((rd_T29 l3 t0).f0), .int .u64 ((rd_T29 l3 t0).f1), .int .u64 ((rd_T29 l3 t0).f2), .int .u64 ((rd_T29 l3 t0).f3)] (0, 0) _ rfl (blkF_ BK0.out) Try.underlying29 rfl (by kernel_rfl)) rfl ?_
   exact ⟨rfl_, bel_⟩
  ·rw [if_neg c0] at H
   have c1 := decide_eq_false c0
   clear c0
   obtain ⟨t3, A4, H⟩ := bnd_ H
   obtain ⟨⟨t4, t5, t6, t7⟩, A5, H⟩ := bnd_ H
   dsimp only at H
   obtain ⟨⟨t8, t9, t10, t11⟩, A6, H⟩ := bnd_ H
   dsimp only at H
   obtain ⟨⟨t12, t13, t14, t15⟩, A7, H⟩ := bnd_ H
   dsimp only at H
   simp only [Option.some.injEq, Prod.mk.injEq] at H
   obtain ⟨rfl, rfl, rfl, rfl⟩ := H
   go_enter Try.func74, Try.ntmps74
   go_wp2_with (first | (refine bx_ 10 #[.int .u64 0, .int .u64 0, .int .u64 0, .int .u64 0] 29 ?_; intro gb0 w3 hg hb BK0 GW0; replace HB := s_ hb; clear hb hg) | (refine gcD_ 88 38 Try.func88 (spec_TreeSplit.calls _ _ _ _ A4.out) ?_; intro nd; (try (rw [drewN_self w3]; generalize hq_ : World.drewN w3 _ = w3; have n0_ : Aside0 (w3.heap[gb0]? = some (.cells #[.int .u64 0, .int .u64 0, .int .u64 0, .int .u64 0] 29 (0, 0))) := ⟨by rw [← hq_]; exact (blkU_ BK0.out)⟩; have n1_ : Aside0 (Below w.heap.size w w3) := ⟨by rw [← hq_]; exact bel_⟩; clear BK0 HB hq_; have BK0 := n0_; have HB := n1_; clear n0_ n1_))) | (refine gcB_ 74 45 Try.func74 (ih k (by omega) a0 (wrap64 (a0 + t3)) a1 a3 _ _ l3 t4 t5 t6 t7 _ ?side1 ?side2 A5.out) ?_; (case side1 => exact cU_ (Kd.C_below HR4.out HB.out)); (case side2 => exact HC4.out); intro w4 hb; replace BK0 := bb_ BK0.out hb; replace HB := s_ hb; clear hb) | (refine gcB_ 74 51 Try.func74 (ih k (by omega) (wrap64 (a0 + t3)) a2 a1 a3 _ _ l3 t8 t9 t10 t11 _ ?side1 ?side2 A6.out) ?_; (case side1 => exact cU_ (Kd.C_below HR4.out HB.out)); (case side2 => exact HC4.out); intro w5 hb; replace BK0 := bb_ BK0.out hb; replace HB := s_ hb; clear hb) | (refine gcB_ 119 52 Try.func119 (spec_HashPair.calls _ _ _ _ _ _ _ _ _ _ _ _ _ _ A7.out) ?_; intro w6 hb; replace BK0 := bb_ BK0.out hb; replace HB := s_ hb; clear hb; obtain ⟨z8, z9, z10, z11, f8, f9, f10, f11⟩ := cz4_ BK0.out))
   refine bodyPost_ret (results_cell_row rfl _ _ gb0 29 #[.int .u64 t12, .int .u64 t13, .int .u64 t14, .int .u64 t15] (0, 0) _ rfl (blkF_ BK0.out) Try.underlying29 rfl (by kernel_rfl)) rfl ?_
   exact ⟨rfl_, bel_⟩
end
section
attribute [local go_sem high] eqA29
def spec_GrowthCheck.j0 : Nat → List (S29) → Int → Int → Bool → Int → Int → Int → Int → Int → Int → Int → Int → Int → Int → Option (Int)
 | 0, _, _, _, _, _, _, _, _, _, _, _, _, _, _ => none
 | k + 1, x1, x0, x2, x11, x12, x3, x4, x5, x6, x13, x7, x8, x9, x10 => if x11 = true then (some 3) else (if x0 = x2 then (if (!(x7 == x3) || (!(x8 == x4) || (!(x9 == x5) || (!(x10 == x6))))) = true then (some 4) else (some 0)) else (if x0 = 0 then (some 0) else ((spec_PeaksCount.f k x0).bind fun t0 => (if 0 ≤ t0 then (if t0 ≤ (x1.length : Int) then ((spec_PeaksRoot.f k (x1.take (t0 : Int).toNat)).bind fun bt0 => (if (!(bt0.1 == x3) || (!(bt0.2.1 == x4) || (!(bt0.2.2.1 == x5) || (!(bt0.2.2.2 == x6))))) = true then (some 3) else ((spec_l3Node.f k 0 x2 x0 x2 x1).bind fun bt1 => (if (!(bt1.1 == x7) || (!(bt1.2.1 == x8) || (!(bt1.2.2.1 == x9) || (!(bt1.2.2.2 == x10))))) = true then (some 4) else (some 0))))) else (none)) else (none)))))
def spec_GrowthCheck.f (k : Nat) (a0 a2 a3 a4 a5 a1 a6 a7 a8 a9 : Int) (l2 : List (S29)) : Option (Int) := (spec_l3Sizes.f a0 a1).bind fun t0 => (if t0 = true then ((spec_GrowthLen.f k a0 a1).bind fun t1 => (if (l2.length : Int) = t1 then (if a0 = 0 then ((spec_HashOf.f k (⟨#[]⟩ : ByteArray)).bind fun bt0 => (spec_GrowthCheck.j0 k l2 a0 a1 (!(a2 == bt0.1) || (!(a3 == bt0.2.1) || (!(a4 == bt0.2.2.1) || (!(a5 == bt0.2.2.2))))) a0 a2 a3 a4 a5 a1 a6 a7 a8 a9)) else (spec_GrowthCheck.j0 k l2 a0 a1 false a0 a2 a3 a4 a5 a1 a6 a7 a8 a9)) else (some 2))) else (some 1))
def spec_GrowthCheck.T7 : TT_ := (true, [([], []), ([0], [0]), ([1], [1]), ([2], [2]), ([3, 2], [2, 3]), ([2, 2], [2]), ([4, 5, 2], [2, 4, 5]), ([2, 6], [2, 6])])
def spec_GrowthCheck.B7 : List Nat := [0, 1, 3, 7, 15, 7, 63, 127]
theorem spec_GrowthCheck.tab7 : rtab .any (opsOf Try.f35 7) = spec_GrowthCheck.T7 := by kernel_rfl
theorem spec_GrowthCheck.bits7 : waitsOk spec_GrowthCheck.T7.2 spec_GrowthCheck.B7 = true := by kernel_rfl
def spec_GrowthCheck.T15 : TT_ := (true, [([], []), ([], []), ([1], [1]), ([0, 2], [0, 2]), ([3, 2], [3]), ([], []), ([5], [5]), ([4, 6], [4, 6])])
def spec_GrowthCheck.B15 : List Nat := [0, 0, 2, 7, 15, 0, 32, 127]
theorem spec_GrowthCheck.tab15 : rtab .any (opsOf Try.f35 15) = spec_GrowthCheck.T15 := by kernel_rfl
theorem spec_GrowthCheck.bits15 : waitsOk spec_GrowthCheck.T15.2 spec_GrowthCheck.B15 = true := by kernel_rfl
def spec_GrowthCheck.T17 : TT_ := (true, [([], []), ([], []), ([], []), ([], []), ([0, 1, 2, 3], [0, 1, 2, 3]), ([], []), ([5], [5]), ([4, 6], [4, 6])])
def spec_GrowthCheck.B17 : List Nat := [0, 0, 0, 0, 15, 0, 32, 127]
theorem spec_GrowthCheck.tab17 : rtab .any (opsOf Try.f35 17) = spec_GrowthCheck.T17 := by kernel_rfl
theorem spec_GrowthCheck.bits17 : waitsOk spec_GrowthCheck.T17.2 spec_GrowthCheck.B17 = true := by kernel_rfl
theorem spec_GrowthCheck.calls (k : Nat) (a0 a1 a2 a3 a4 a5 a6 a7 a8 a9 : Int) (A0 : Option Addr) (c2 : Nat) (l2 : List (S29)) (r : Int) (w : World) (hr2 : Kd.C k29 w A0 l2.length l2) (hc2 : l2.length ≤ c2) (h : spec_GrowthCheck.f k a0 a1 a2 a3 a4 a5 a6 a7 a8 a9 l2 = some r) :
  Calls Try.prog 35 #[.agg #[.int .i64 a0, .int .u64 a1, .int .u64 a2, .int .u64 a3, .int .u64 a4], .agg #[.int .i64 a5, .int .u64 a6, .int .u64 a7, .int .u64 a8, .int .u64 a9], .slice A0 l2.length c2] w fun e w' => e = .returned (.int .i64 r) ∧ Below w.heap.size w w' := by
 have hu31 := Try.underlying31
 have hu29 := Try.underlying29
 have HR2 := a_ hr2
 have HC2 := a_ hc2
 clear hr2 hc2
 have HB := rB_ w
 have H := h
 unfold spec_GrowthCheck.f at H
 clear h
 obtain ⟨t9, A3, H⟩ := bnd_ H
 by_cases c5 : t9 = true
 ·subst c5
  rw [if_pos rfl] at H
  obtain ⟨t10, A5, H⟩ := bnd_ H
  by_cases c7 : (l2.length : Int) = t10
  ·rw [if_pos c7] at H
   have c20 := beq_iff_eq.mpr c7
   have c21 := bne_eq_false_iff_eq.mpr c7
   clear c7
   have HC8 := a_ H
   clear H
   go_enter Try.func35, Try.ntmps35
   go_upto_region 7 with (first | ((with_reducible refine gate_dst (N := 3) rfl ?_); refine boxE_ (cs := #[.int .i64 a0, .int .u64 a1, .int .u64 a2, .int .u64 a3, .int .u64 a4]) (t := 31) ?_; intro gb0 hg w20 hbox hb; have BK0 := a_ (hbox); have GW0 := sizeB_ hg; replace HB := s_ hb; clear hb hbox hg) | ((with_reducible refine gate_dst (N := 4) rfl ?_); refine boxE_ (cs := #[.int .i64 a5, .int .u64 a6, .int .u64 a7, .int .u64 a8, .int .u64 a9]) (t := 31) ?_; intro gb1 hg w1 hbox hb; have BK1 := a_ (hbox); have GW1 := sizeB_ hg; replace HB := s_ hb; obtain ⟨NB0, NB1⟩ := ne2_ BK0.out hg; replace BK0 := bb_ BK0.out hb; clear hb hbox hg; have hnb0 := NB0.out; have hnc0 := NB1.out; obtain ⟨z0, z1, z2, z3, z4, f0, f1, f2, f3, f4⟩ := cz5_ BK0.out; obtain ⟨z5, z6, z7, z8, z9, f5, f6, f7, f8, f9⟩ := cz5_ BK1.out) | (refine gcL_ 66 (some 15) Try.func66 #[.int .i64 a0, .int .i64 a5] ?_; (with_reducible refine (spec_l3Sizes.calls _ _ _ _ A3.out).mono ?_); rintro e w1 ⟨rfl, hd_⟩; refine ⟨_, rfl, ?_⟩; replace BK0 := drawnK_ BK0.out hd_; replace BK1 := drawnK_ BK1.out hd_; replace HB := drawnB_ HB.out hd_; clear hd_; obtain ⟨z0, z1, z2, z3, z4, f0, f1, f2, f3, f4⟩ := cz5_ BK0.out; obtain ⟨z5, z6, z7, z8, z9, f5, f6, f7, f8, f9⟩ := cz5_ BK1.out) | (refine gcL_ 32 (some 21) Try.func32 #[.int .i64 a0, .int .i64 a5] ?_; (with_reducible refine (spec_GrowthLen.calls _ _ _ _ _ A5.out).mono ?_); rintro e w1 ⟨rfl, hd_⟩; refine ⟨_, rfl, ?_⟩; replace BK0 := drawnK_ BK0.out hd_; replace BK1 := drawnK_ BK1.out hd_; replace HB := drawnB_ HB.out hd_; clear hd_; obtain ⟨z0, z1, z2, z3, z4, f0, f1, f2, f3, f4⟩ := cz5_ BK0.out; obtain ⟨z5, z6, z7, z8, z9, f5, f6, f7, f8, f9⟩ := cz5_ BK1.out))
   (try simp only [Act.put, List.setIfInBounds_toArray, List.set_cons_zero, List.set_cons_succ])
   go_cut [30] (fun v0 wc => ∃ (kq : Nat) (x0 : Bool), v0 = .bool x0 ∧ Aside0 (spec_GrowthCheck.j0 kq l2 a0 a5 x0 a0 a1 a2 a3 a4 a5 a6 a7 a8 a9 = some r) ∧ Aside0 (kq ≤ k) ∧ Aside0 (wc.heap[gb0]? = some (.cells #[.int .i64 a0, .int .u64 a1, .int .u64 a2, .int .u64 a3, .int .u64 a4] 31 (0, 0))) ∧ Aside0 (wc.heap[gb1]? = some (.cells #[.int .i64 a5, .int .u64 a6, .int .u64 a7, .int .u64 a8, .int .u64 a9] 31 (0, 0))) ∧ Aside0 (Below w.heap.size w wc))
   case first =>
    have H := HC8.out
    clear HC8
    by_cases c0 : a0 = 0
    ·rw [if_pos c0] at H
     have c12 := beq_iff_eq.mpr c0
     have c19 := bne_eq_false_iff_eq.mpr c0
     clear c0
     (first | rw [c12] | (simp only [i64_w, i32_w]; rw [c12]) | skip)
     obtain ⟨⟨t11, t12, t13, t14⟩, A6, H⟩ := bnd_ H
     dsimp only at H
     have H' := a_ H
     clear H
     try go_wp2
     replace BK0 := a_ (blk_drew BK0.out)
     replace BK1 := a_ (blk_drew BK1.out)
     replace HB := a_ (below_drew1 HB.out)
     refine start_ (n := 8) (S := fun w' => hd5_ w' gb0 (.int .i64 a0) (.int .u64 a1) (.int .u64 a2) (.int .u64 a3) (.int .u64 a4)) (ds := []) #[false, false, false, false, false, false, false, false] (by kernel_rfl) rfl rfl (hc5_ BK0.out) (fun hHeld => ?_); refine with_tabW spec_GrowthCheck.tab7 spec_GrowthCheck.bits7 (fun HT HW_ => ?_)
     generalize w1.drew = w4 at BK0 BK1 HB hHeld ⊢
     refine qP_ 0 23 8 1 ?_
     refine qP_ 1 24 8 3 ?_
     refine qP_ 2 25 8 7 ?_
     refine qP_ 3 26 8 15 ?_
     refine qT_ 4 27 8 31 ?_
     refine oneP_ 5 (some 28) (b_ 8 63) HT (fun K hK => ?_)
     refine goN_ Try.func72 #[.string (⟨#[]⟩ : ByteArray)] ?_
     with_reducible refine (spec_HashOf.calls _ _ _ _ _ _ _ A6.out).mono ?_
     rintro e w5 ⟨rfl, hb⟩
     refine ⟨_, rfl, ?_⟩
     replace BK0 := bb_ BK0.out hb
     replace BK1 := bb_ BK1.out hb
     replace HB := s_ hb
     (try clear hb)
     refine hK.out _ _ (hc5_ BK0.out) (fun hHeld => ?_)
     clear hK K
     refine normP_ (some 28) ?_
     refine qP_ 6 29 8 127 ?_
     refine qP_ 7 30 8 255 ?_
     refine done_ (done_of HT.out (by kernel_rfl)) ?_
     try go_wp2
     go_meet
     case rel => exact ⟨_, ((!(a1 == t11) || (!(a2 == t12) || (!(a3 == t13) || (!(a4 == t14)))))), rl_, H', ⟨by first | omega | exact Nat.le_refl _⟩, ⟨blkU_ BK0.out⟩, ⟨blkU_ BK1.out⟩, ⟨bel_⟩⟩
    ·rw [if_neg c0] at H
     have c12 := beq_eq_false_iff_ne.mpr c0
     have c19 := bne_iff_ne.mpr c0
     (first | rw [c12] | (simp only [i64_w, i32_w]; rw [c12]) | skip)
     have H' := a_ H
     clear H
     try go_wp2
     replace BK0 := a_ (blk_drew BK0.out)
     replace BK1 := a_ (blk_drew BK1.out)
     replace HB := a_ (below_drew1 HB.out)
     refine start_ (n := 8) (S := fun w' => True) (ds := []) #[false, false, false, false, false, false, false, false] (by kernel_rfl) rfl rfl trivial (fun hHeld => ?_); refine with_tabW spec_GrowthCheck.tab7 spec_GrowthCheck.bits7 (fun HT HW_ => ?_)
     generalize w1.drew = w6 at BK0 BK1 HB hHeld ⊢
     refine qP_ 0 23 8 1 ?_
     refine qP_ 1 24 8 3 ?_
     refine qP_ 2 25 8 7 ?_
     refine qU_ 3 26 8 15 ?_
     refine qU_ 4 27 8 31 ?_
     refine qU_ 5 28 8 63 ?_
     refine qU_ 6 29 8 127 ?_
     refine qP_ 7 30 8 255 ?_
     refine done_ (done_of HT.out (by kernel_rfl)) ?_
     try go_wp2
     go_meet
     case rel => exact ⟨_, (false), rl_, H', ⟨by first | omega | exact Nat.le_refl _⟩, ⟨blkU_ BK0.out⟩, ⟨blkU_ BK1.out⟩, ⟨bel_⟩⟩
   case rest =>
    clear HC8
    (try clear c2); (try clear c5); (try clear c7); (try clear c20); (try clear c21); (try clear c0); (try clear c12); (try clear c19); (try clear z0 z1 z2 z3 z4); (try clear z5 z6 z7 z8 z9); (try clear f0 f1 f2 f3 f4); (try clear f5 f6 f7 f8 f9)
    obtain ⟨kq, x0, rfl, HA, HJ7, BK0, BK1, HB⟩ := hcut
    cases kq with
    | zero => exact absurd HA.out (by simp [spec_GrowthCheck.j0])
    | succ kj0 =>
     have H := HA.out
     clear HA
     simp only [spec_GrowthCheck.j0] at H
     by_cases c16 : x0 = true
     ·subst c16
      rw [if_pos rfl] at H
      obtain rfl := Option.some.inj H
      go_wp2
      go_ret
      exact ⟨rfl_, bel_⟩
     ·replace c16 := Bool.eq_false_iff.mpr c16
      subst c16
      rw [if_neg (show ¬ (false = true) by decide)] at H
      by_cases c1 : a0 = a5
      ·rw [if_pos c1] at H
       have c22 := beq_iff_eq.mpr c1
       have c23 := bne_eq_false_iff_eq.mpr c1
       clear c1
       by_cases c13 : (!(a6 == a1) || (!(a7 == a2) || (!(a8 == a3) || (!(a9 == a4))))) = true
       ·rw [if_pos c13] at H
        have c24 : (!(a6 == a1) || (!(a7 == a2) || (!(a8 == a3) || (!(a9 == a4))))) = true := c13
        clear c13
        obtain rfl := Option.some.inj H
        have hnb1 := NB1.out
        have hnc1 := NB0.out
        obtain ⟨z10, z11, z12, z13, z14, f10, f11, f12, f13, f14⟩ := cz5_ BK1.out
        obtain ⟨z15, z16, z17, z18, z19, f15, f16, f17, f18, f19⟩ := cz5_ BK0.out
        go_wp2
        go_ret
        exact ⟨rfl_, bel_⟩
       ·rw [if_neg c13] at H
        have c24 : (!(a6 == a1) || (!(a7 == a2) || (!(a8 == a3) || (!(a9 == a4))))) = false := by simpa using c13
        clear c13
        obtain rfl := Option.some.inj H
        have hnb2 := NB1.out
        have hnc2 := NB0.out
        obtain ⟨z20, z21, z22, z23, z25, f20, f21, f22, f23, f24⟩ := cz5_ BK1.out
        obtain ⟨z27, z28, z30, z32, z33, f25, f26, f27, f28, f29⟩ := cz5_ BK0.out
        go_wp2
        go_ret
        exact ⟨rfl_, bel_⟩
      ·rw [if_neg c1] at H
       have c22 := beq_eq_false_iff_ne.mpr c1
       have c23 := bne_iff_ne.mpr c1
       by_cases c11 : a0 = 0
       ·rw [if_pos c11] at H
        have c25 := beq_iff_eq.mpr c11
        have c26 := bne_eq_false_iff_eq.mpr c11
        clear c11
        obtain rfl := Option.some.inj H
        go_wp2
        go_ret
        exact ⟨rfl_, bel_⟩
       ·rw [if_neg c11] at H
        have c25 := beq_eq_false_iff_ne.mpr c11
        have c26 := bne_iff_ne.mpr c11
        obtain ⟨t0, A1, H⟩ := bnd_ H
        obtain ⟨c17, H⟩ := ifn_ H
        have c29 := eq_true c17
        have c30 := decide_eq_true c17
        clear c17
        obtain ⟨c18, H⟩ := ifn_ H
        have c31 := eq_true c18
        have c32 := decide_eq_true c18
        clear c18
        obtain ⟨y0, hy0⟩ : ∃ y_ : List (S29), y_ = (l2.take (t0 : Int).toNat) := ⟨_, rfl⟩
        replace H : ((spec_PeaksRoot.f kj0 y0).bind fun bt0 => (if (!(bt0.1 == a1) || (!(bt0.2.1 == a2) || (!(bt0.2.2.1 == a3) || (!(bt0.2.2.2 == a4))))) = true then (some 3) else ((spec_l3Node.f kj0 0 a5 a0 a5 l2).bind fun bt1 => (if (!(bt1.1 == a6) || (!(bt1.2.1 == a7) || (!(bt1.2.2.1 == a8) || (!(bt1.2.2.2 == a9))))) = true then (some 4) else (some 0))))) = some r := rpl_ hy0 H
        have Ny0 := a_ hy0
        clear hy0
        obtain ⟨⟨t1, t2, t3, t4⟩, A2, H⟩ := bnd_ H
        dsimp only at H
        by_cases c14 : (!(t1 == a1) || (!(t2 == a2) || (!(t3 == a3) || (!(t4 == a4))))) = true
        ·rw [if_pos c14] at H
         have c27 : (!(t1 == a1) || (!(t2 == a2) || (!(t3 == a3) || (!(t4 == a4))))) = true := c14
         clear c14
         obtain rfl := Option.some.inj H
         try go_wp2
         replace BK0 := a_ (blk_drew BK0.out)
         replace BK1 := a_ (blk_drew BK1.out)
         replace HB := a_ (below_drew1 HB.out)
         refine start_ (n := 8) (S := fun w' => hd5_ w' gb0 (.int .i64 a0) (.int .u64 a1) (.int .u64 a2) (.int .u64 a3) (.int .u64 a4)) (ds := []) #[false, false, false, false, false, false, false, false] (by kernel_rfl) rfl rfl (hc5_ BK0.out) (fun hHeld => ?_); refine with_tabW spec_GrowthCheck.tab15 spec_GrowthCheck.bits15 (fun HT HW_ => ?_)
         generalize wc.drew = w7 at BK0 BK1 HB hHeld ⊢
         refine qP_ 0 41 8 1 ?_
         refine qP_ 1 42 8 3 ?_
         refine qP_ 5 46 8 35 ?_
         refine qT_ 6 47 8 99 ?_
         refine oneP_ 2 (some 43) (b_ 8 103) HT (fun K hK => ?_)
         refine goN_ Try.func50 #[.int .i64 a0] ?_
         with_reducible refine (spec_PeaksCount.calls _ _ _ _ A1.out).mono ?_
         rintro e w' ⟨rfl, ⟨nd, rfl⟩⟩
         refine ⟨_, rfl, ?_⟩
         have q0 : (t0 : Int) ≤ ((l2.length : Int) : Int) := ofd_
         obtain ⟨i035, hi0, _, hsz35, _⟩ := info_parts info29
         have hroom35 : l2.length ≤ c2 := HC2.out
         have hC35 : Kd.C k29 _ A0 l2.length l2 := HR2.out
         have hcut35 := cut_to (P := Try.prog) 49 29 .i64 Try.underlying49 hi0 A0 l2.length c2 t0 (ofd_) q0 hroom35
         have hr35 := Kd.C_take (m := (t0 : Int).toNat) hC35 (by omega)
         have hy1 : y0.length = (t0 : Int).toNat := (by rw [Ny0.out, List.length_take]; omega)
         rw [← Ny0.out] at hr35
         rw [← hy1] at hcut35
         have HR217 := a_ hr35
         have HC217 := a_ (show y0.length ≤ c2 from by omega)
         clear hr35 hC35 hroom35 hi0 hsz35
         have KY35 := a_ hy1
         clear hy1
         replace q0 := eq_true q0
         refine hK.out _ _ (hc5_ BK0.out) (fun hHeld => ?_)
         clear hK K
         refine normP_ (some 43) ?_
         refine qP_ 3 44 8 111 ?_
         refine oneP_ 4 (some 45) (b_ 8 127) HT (fun K hK => ?_)
         refine goN_ Try.func73 #[.slice A0 y0.length c2] ?_
         with_reducible refine (spec_PeaksRoot.calls _ _ _ _ _ _ _ _ _ ?side1 ?side2 A2.out).mono ?_
         (case side1 => exact cU_ (Kd.C_below HR217.out bel_))
         (case side2 => exact HC217.out)
         rintro e w9 ⟨rfl, hb⟩
         refine ⟨_, rfl, ?_⟩
         replace BK0 := bb_ BK0.out hb
         replace BK1 := bb_ BK1.out hb
         replace HB := s_ hb
         (try clear hb)
         refine hK.out _ _ (hc5_ BK0.out) (fun hHeld => ?_)
         clear hK K
         refine normP_ (some 45) ?_
         refine qP_ 7 48 8 255 ?_
         refine done_ (done_of HT.out (by kernel_rfl)) ?_
         try go_wp2
         go_ret
         exact ⟨rfl_, bel_⟩
        ·rw [if_neg c14] at H
         have c27 : (!(t1 == a1) || (!(t2 == a2) || (!(t3 == a3) || (!(t4 == a4))))) = false := by simpa using c14
         clear c14
         obtain ⟨⟨t5, t6, t7, t8⟩, A4, H⟩ := bnd_ H
         dsimp only at H
         by_cases c15 : (!(t5 == a6) || (!(t6 == a7) || (!(t7 == a8) || (!(t8 == a9))))) = true
         ·rw [if_pos c15] at H
          have c28 : (!(t5 == a6) || (!(t6 == a7) || (!(t7 == a8) || (!(t8 == a9))))) = true := c15
          clear c15
          obtain rfl := Option.some.inj H
          try go_wp2
          replace BK0 := a_ (blk_drew BK0.out)
          replace BK1 := a_ (blk_drew BK1.out)
          replace HB := a_ (below_drew1 HB.out)
          refine start_ (n := 8) (S := fun w' => hd5_ w' gb0 (.int .i64 a0) (.int .u64 a1) (.int .u64 a2) (.int .u64 a3) (.int .u64 a4)) (ds := []) #[false, false, false, false, false, false, false, false] (by kernel_rfl) rfl rfl (hc5_ BK0.out) (fun hHeld => ?_); refine with_tabW spec_GrowthCheck.tab15 spec_GrowthCheck.bits15 (fun HT HW_ => ?_)
          generalize wc.drew = w10 at BK0 BK1 HB hHeld ⊢
          refine qP_ 0 41 8 1 ?_
          refine qP_ 1 42 8 3 ?_
          refine qP_ 5 46 8 35 ?_
          refine qT_ 6 47 8 99 ?_
          refine oneP_ 2 (some 43) (b_ 8 103) HT (fun K hK => ?_)
          refine goN_ Try.func50 #[.int .i64 a0] ?_
          with_reducible refine (spec_PeaksCount.calls _ _ _ _ A1.out).mono ?_
          rintro e w' ⟨rfl, ⟨nd, rfl⟩⟩
          refine ⟨_, rfl, ?_⟩
          have q1 : (t0 : Int) ≤ ((l2.length : Int) : Int) := ofd_
          obtain ⟨i040, hi1, _, hsz40, _⟩ := info_parts info29
          have hroom40 : l2.length ≤ c2 := HC2.out
          have hC40 : Kd.C k29 _ A0 l2.length l2 := HR2.out
          have hcut40 := cut_to (P := Try.prog) 49 29 .i64 Try.underlying49 hi1 A0 l2.length c2 t0 (ofd_) q1 hroom40
          have hr40 := Kd.C_take (m := (t0 : Int).toNat) hC40 (by omega)
          have hy2 : y0.length = (t0 : Int).toNat := (by rw [Ny0.out, List.length_take]; omega)
          rw [← Ny0.out] at hr40
          rw [← hy2] at hcut40
          have HR217 := a_ hr40
          have HC217 := a_ (show y0.length ≤ c2 from by omega)
          clear hr40 hC40 hroom40 hi1 hsz40
          have KY40 := a_ hy2
          clear hy2
          replace q1 := eq_true q1
          refine hK.out _ _ (hc5_ BK0.out) (fun hHeld => ?_)
          clear hK K
          refine normP_ (some 43) ?_
          refine qP_ 3 44 8 111 ?_
          refine oneP_ 4 (some 45) (b_ 8 127) HT (fun K hK => ?_)
          refine goN_ Try.func73 #[.slice A0 y0.length c2] ?_
          with_reducible refine (spec_PeaksRoot.calls _ _ _ _ _ _ _ _ _ ?side1 ?side2 A2.out).mono ?_
          (case side1 => exact cU_ (Kd.C_below HR217.out bel_))
          (case side2 => exact HC217.out)
          rintro e w2 ⟨rfl, hb⟩
          refine ⟨_, rfl, ?_⟩
          replace BK0 := bb_ BK0.out hb
          replace BK1 := bb_ BK1.out hb
          replace HB := s_ hb
          (try clear hb)
          refine hK.out _ _ (hc5_ BK0.out) (fun hHeld => ?_)
          clear hK K
          refine normP_ (some 45) ?_
          refine qP_ 7 48 8 255 ?_
          refine done_ (done_of HT.out (by kernel_rfl)) ?_
          try go_wp2
          replace BK0 := a_ (blk_drew BK0.out)
          replace BK1 := a_ (blk_drew BK1.out)
          replace HB := a_ (below_drew1 HB.out)
          refine start_ (n := 8) (S := fun w' => hd5_ w' gb1 (.int .i64 a5) (.int .u64 a6) (.int .u64 a7) (.int .u64 a8) (.int .u64 a9)) (ds := []) #[false, false, false, false, false, false, false, false] (by kernel_rfl) rfl rfl (hc5_ BK1.out) (fun hHeld => ?_); refine with_tabW spec_GrowthCheck.tab17 spec_GrowthCheck.bits17 (fun HT HW_ => ?_)
          generalize w2.drew = w11 at BK0 BK1 HB hHeld ⊢
          refine qP_ 0 49 8 1 ?_
          refine qP_ 1 50 8 3 ?_
          refine qP_ 2 51 8 7 ?_
          refine qP_ 3 52 8 15 ?_
          refine qP_ 5 54 8 47 ?_
          refine qT_ 6 55 8 111 ?_
          refine oneP_ 4 (some 53) (b_ 8 127) HT (fun K hK => ?_)
          refine goN_ Try.func74 #[.int .i64 0, .int .i64 a5, .int .i64 a0, .int .i64 a5, .slice A0 l2.length c2] ?_
          with_reducible refine (spec_l3Node.calls _ _ _ _ _ _ _ _ _ _ _ _ _ ?side1 ?side2 A4.out).mono ?_
          (case side1 => exact cU_ (Kd.C_below HR2.out HB.out))
          (case side2 => exact HC2.out)
          rintro e w12 ⟨rfl, hb⟩
          refine ⟨_, rfl, ?_⟩
          replace BK0 := bb_ BK0.out hb
          replace BK1 := bb_ BK1.out hb
          replace HB := s_ hb
          (try clear hb)
          refine hK.out _ _ (hc5_ BK1.out) (fun hHeld => ?_)
          clear hK K
          refine normP_ (some 53) ?_
          refine qP_ 7 56 8 255 ?_
          refine done_ (done_of HT.out (by kernel_rfl)) ?_
          try go_wp2
          go_ret
          exact ⟨rfl_, bel_⟩
         ·rw [if_neg c15] at H
          have c28 : (!(t5 == a6) || (!(t6 == a7) || (!(t7 == a8) || (!(t8 == a9))))) = false := by simpa using c15
          clear c15
          obtain rfl := Option.some.inj H
          try go_wp2
          replace BK0 := a_ (blk_drew BK0.out)
          replace BK1 := a_ (blk_drew BK1.out)
          replace HB := a_ (below_drew1 HB.out)
          refine start_ (n := 8) (S := fun w' => hd5_ w' gb0 (.int .i64 a0) (.int .u64 a1) (.int .u64 a2) (.int .u64 a3) (.int .u64 a4)) (ds := []) #[false, false, false, false, false, false, false, false] (by kernel_rfl) rfl rfl (hc5_ BK0.out) (fun hHeld => ?_); refine with_tabW spec_GrowthCheck.tab15 spec_GrowthCheck.bits15 (fun HT HW_ => ?_)
          generalize wc.drew = w13 at BK0 BK1 HB hHeld ⊢
          refine qP_ 0 41 8 1 ?_
          refine qP_ 1 42 8 3 ?_
          refine qP_ 5 46 8 35 ?_
          refine qT_ 6 47 8 99 ?_
          refine oneP_ 2 (some 43) (b_ 8 103) HT (fun K hK => ?_)
          refine goN_ Try.func50 #[.int .i64 a0] ?_
          with_reducible refine (spec_PeaksCount.calls _ _ _ _ A1.out).mono ?_
          rintro e w' ⟨rfl, ⟨nd, rfl⟩⟩
          refine ⟨_, rfl, ?_⟩
          have q2 : (t0 : Int) ≤ ((l2.length : Int) : Int) := ofd_
          obtain ⟨i045, hi2, _, hsz45, _⟩ := info_parts info29
          have hroom45 : l2.length ≤ c2 := HC2.out
          have hC45 : Kd.C k29 _ A0 l2.length l2 := HR2.out
          have hcut45 := cut_to (P := Try.prog) 49 29 .i64 Try.underlying49 hi2 A0 l2.length c2 t0 (ofd_) q2 hroom45
          have hr45 := Kd.C_take (m := (t0 : Int).toNat) hC45 (by omega)
          have hy3 : y0.length = (t0 : Int).toNat := (by rw [Ny0.out, List.length_take]; omega)
          rw [← Ny0.out] at hr45
          rw [← hy3] at hcut45
          have HR217 := a_ hr45
          have HC217 := a_ (show y0.length ≤ c2 from by omega)
          clear hr45 hC45 hroom45 hi2 hsz45
          have KY45 := a_ hy3
          clear hy3
          replace q2 := eq_true q2
          refine hK.out _ _ (hc5_ BK0.out) (fun hHeld => ?_)
          clear hK K
          refine normP_ (some 43) ?_
          refine qP_ 3 44 8 111 ?_
          refine oneP_ 4 (some 45) (b_ 8 127) HT (fun K hK => ?_)
          refine goN_ Try.func73 #[.slice A0 y0.length c2] ?_
          with_reducible refine (spec_PeaksRoot.calls _ _ _ _ _ _ _ _ _ ?side1 ?side2 A2.out).mono ?_
          (case side1 => exact cU_ (Kd.C_below HR217.out bel_))
          (case side2 => exact HC217.out)
          rintro e w3 ⟨rfl, hb⟩
          refine ⟨_, rfl, ?_⟩
          replace BK0 := bb_ BK0.out hb
          replace BK1 := bb_ BK1.out hb
          replace HB := s_ hb
          (try clear hb)
          refine hK.out _ _ (hc5_ BK0.out) (fun hHeld => ?_)
          clear hK K
          refine normP_ (some 45) ?_
          refine qP_ 7 48 8 255 ?_
          refine done_ (done_of HT.out (by kernel_rfl)) ?_
          try go_wp2
          replace BK0 := a_ (blk_drew BK0.out)
          replace BK1 := a_ (blk_drew BK1.out)
          replace HB := a_ (below_drew1 HB.out)
          refine start_ (n := 8) (S := fun w' => hd5_ w' gb1 (.int .i64 a5) (.int .u64 a6) (.int .u64 a7) (.int .u64 a8) (.int .u64 a9)) (ds := []) #[false, false, false, false, false, false, false, false] (by kernel_rfl) rfl rfl (hc5_ BK1.out) (fun hHeld => ?_); refine with_tabW spec_GrowthCheck.tab17 spec_GrowthCheck.bits17 (fun HT HW_ => ?_)
          generalize w3.drew = w14 at BK0 BK1 HB hHeld ⊢
          refine qP_ 0 49 8 1 ?_
          refine qP_ 1 50 8 3 ?_
          refine qP_ 2 51 8 7 ?_
          refine qP_ 3 52 8 15 ?_
          refine qP_ 5 54 8 47 ?_
          refine qT_ 6 55 8 111 ?_
          refine oneP_ 4 (some 53) (b_ 8 127) HT (fun K hK => ?_)
          refine goN_ Try.func74 #[.int .i64 0, .int .i64 a5, .int .i64 a0, .int .i64 a5, .slice A0 l2.length c2] ?_
          with_reducible refine (spec_l3Node.calls _ _ _ _ _ _ _ _ _ _ _ _ _ ?side1 ?side2 A4.out).mono ?_
          (case side1 => exact cU_ (Kd.C_below HR2.out HB.out))
          (case side2 => exact HC2.out)
          rintro e w15 ⟨rfl, hb⟩
          refine ⟨_, rfl, ?_⟩
          replace BK0 := bb_ BK0.out hb
          replace BK1 := bb_ BK1.out hb
          replace HB := s_ hb
          (try clear hb)
          refine hK.out _ _ (hc5_ BK1.out) (fun hHeld => ?_)
          clear hK K
          refine normP_ (some 53) ?_
          refine qP_ 7 56 8 255 ?_
          refine done_ (done_of HT.out (by kernel_rfl)) ?_
          try go_wp2
          go_ret
          exact ⟨rfl_, bel_⟩
  ·rw [if_neg c7] at H
   have c20 := beq_eq_false_iff_ne.mpr c7
   have c21 := bne_iff_ne.mpr c7
   obtain rfl := Option.some.inj H
   go_enter Try.func35, Try.ntmps35
   go_wp2_with (first | (refine bx_ 3 #[.int .i64 a0, .int .u64 a1, .int .u64 a2, .int .u64 a3, .int .u64 a4] 31 ?_; intro gb0 w16 hg hb BK0 GW0; replace HB := s_ hb; clear hb hg) | (refine bx_ 4 #[.int .i64 a5, .int .u64 a6, .int .u64 a7, .int .u64 a8, .int .u64 a9] 31 ?_; intro gb1 w17 hg hb BK1 GW1; replace HB := s_ hb; obtain ⟨NB0, NB1⟩ := ne2_ BK0.out hg; replace BK0 := bb_ BK0.out hb; clear hb hg; have hnb3 := NB0.out; have hnc3 := NB1.out; obtain ⟨z34, z35, z36, z37, z38, f30, f31, f32, f33, f34⟩ := cz5_ BK0.out; obtain ⟨z39, z40, z41, z43, z44, f35, f36, f37, f38, f39⟩ := cz5_ BK1.out) | (refine gcD_ 66 15 Try.func66 (spec_l3Sizes.calls _ _ _ _ A3.out) ?_; intro nd) | (refine gcD_ 32 21 Try.func32 (spec_GrowthLen.calls _ _ _ _ _ A5.out) ?_; intro nd))
   go_ret
   exact ⟨rfl_, bel_⟩
 ·replace c5 := Bool.eq_false_iff.mpr c5
  subst c5
  rw [if_neg (show ¬ (false = true) by decide)] at H
  obtain rfl := Option.some.inj H
  go_enter Try.func35, Try.ntmps35
  go_wp2_with (first | (refine bx_ 3 #[.int .i64 a0, .int .u64 a1, .int .u64 a2, .int .u64 a3, .int .u64 a4] 31 ?_; intro gb0 w18 hg hb BK0 GW0; replace HB := s_ hb; clear hb hg) | (refine bx_ 4 #[.int .i64 a5, .int .u64 a6, .int .u64 a7, .int .u64 a8, .int .u64 a9] 31 ?_; intro gb1 w19 hg hb BK1 GW1; replace HB := s_ hb; obtain ⟨NB0, NB1⟩ := ne2_ BK0.out hg; replace BK0 := bb_ BK0.out hb; clear hb hg; have hnb4 := NB0.out; have hnc4 := NB1.out; obtain ⟨z45, z46, z47, z48, z49, f40, f41, f42, f43, f44⟩ := cz5_ BK0.out; obtain ⟨z50, z52, z53, z54, z55, f45, f46, f47, f48, f49⟩ := cz5_ BK1.out) | (refine gcD_ 66 15 Try.func66 (spec_l3Sizes.calls _ _ _ _ A3.out) ?_; intro nd))
  go_ret
  exact ⟨rfl_, bel_⟩
end
section
attribute [local go_sem high] eqA29
def spec_ClashOfPaths.j0 : Nat → Int → Int → ByteArray → List (S29) → ByteArray → List (S29) → Bool → Option (ByteArray × ByteArray × Bool)
 | 0, _, _, _, _, _, _, _ => none
 | k + 1, x0, x1, x2, x3, x4, x6, x5 => if x5 = true then (some ((⟨#[]⟩ : ByteArray), (⟨#[]⟩ : ByteArray), false)) else ((spec_l4Down.f k x0 x1 x2 x3).bind fun t0 => ((spec_l4Down.f k x0 x1 x4 x6).bind fun t1 => ((spec_ClashFirst.f k t0 t1).bind fun bt0 => (some (bt0.1, bt0.2.1, bt0.2.2)))))
def spec_ClashOfPaths.f (k : Nat) (a0 a1 : Int) (a2 : ByteArray) (l3 : List (S29)) (a3 : ByteArray) (l4 : List (S29)) : Option (ByteArray × ByteArray × Bool) := (spec_PathRoot.f k a0 a1 a2 l3).bind fun bt0 => ((spec_PathRoot.f k a0 a1 a3 l4).bind fun bt1 => (if bt0.2.2.2.2 = true then (if bt1.2.2.2.2 = true then (spec_ClashOfPaths.j0 k a0 a1 a2 l3 a3 l4 (!(bt0.1 == bt1.1) || (!(bt0.2.1 == bt1.2.1) || (!(bt0.2.2.1 == bt1.2.2.1) || (!(bt0.2.2.2.1 == bt1.2.2.2.1)))))) else (spec_ClashOfPaths.j0 k a0 a1 a2 l3 a3 l4 true)) else (spec_ClashOfPaths.j0 k a0 a1 a2 l3 a3 l4 true)))
theorem spec_ClashOfPaths.calls (k : Nat) (a0 a1 : Int) (a2 : ByteArray) (A0 : Option Addr) (c3 : Nat) (l3 : List (S29)) (a3 : ByteArray) (A1 : Option Addr) (c5 : Nat) (l4 : List (S29)) (r0 r1 : ByteArray) (r2 : Bool) (w : World) (hr3 : Kd.C k29 w A0 l3.length l3) (hc3 : l3.length ≤ c3) (hr5 : Kd.C k29 w A1 l4.length l4) (hc5 : l4.length ≤ c5) (h : spec_ClashOfPaths.f k a0 a1 a2 l3 a3 l4 = some (r0, r1, r2)) :
  Calls Try.prog 56 #[.int .i64 a0, .int .i64 a1, .string a2, .slice A0 l3.length c3, .string a3, .slice A1 l4.length c5] w fun e w' => e = .returned (.tuple #[.agg #[.string r0, .string r1], .bool r2]) ∧ Below w.heap.size w w' := by
 have hu46 := Try.underlying46
 have hu29 := Try.underlying29
 have HR3 := a_ hr3
 have HC3 := a_ hc3
 clear hr3 hc3
 have HR5 := a_ hr5
 have HC5 := a_ hc5
 clear hr5 hc5
 have HB := rB_ w
 have H := h
 unfold spec_ClashOfPaths.f at H
 clear h
 obtain ⟨⟨t0, t1, t2, t3, t8⟩, A5, H⟩ := bnd_ H
 dsimp only at H
 obtain ⟨⟨t4, t5, t6, t7, t9⟩, A6, H⟩ := bnd_ H
 dsimp only at H
 have HC9 := a_ H
 clear H
 go_enter Try.func56, Try.ntmps56
 go_upto_region 3 with (first | ((with_reducible refine gate_dst (N := 12) rfl ?_); refine boxE_ (cs := #[.string (⟨#[]⟩ : ByteArray), .string (⟨#[]⟩ : ByteArray)]) (t := 46) ?_; intro gb0 hg w1 hbox hb; have BK0 := a_ (hbox); have GW0 := sizeB_ hg; replace HB := s_ hb; clear hb hbox hg) | (refine gcB_ 86 23 Try.func86 (spec_PathRoot.calls _ _ _ _ _ _ _ _ _ _ _ _ _ ?side1 ?side2 A5.out) ?_; (case side1 => exact cU_ (Kd.C_below HR3.out HB.out)); (case side2 => exact HC3.out); intro w2 hb; replace BK0 := bb_ BK0.out hb; replace HB := s_ hb; clear hb) | ((with_reducible refine gate_dst (N := 14) rfl ?_); refine boxE_ (cs := #[.int .u64 0, .int .u64 0, .int .u64 0, .int .u64 0]) (t := 29) ?_; intro gb1 hg w3 hbox hb; have BK1 := a_ (hbox); have GW1 := sizeB_ hg; replace HB := s_ hb; obtain ⟨NB0, NB2⟩ := ne2_ BK0.out hg; replace BK0 := bb_ BK0.out hb; clear hb hbox hg; have hnb0 := NB2.out; have hnc0 := NB0.out; obtain ⟨z0, z1, z2, z3, f0, f1, f2, f3⟩ := cz4_ BK1.out) | (refine gcB_ 86 31 Try.func86 (spec_PathRoot.calls _ _ _ _ _ _ _ _ _ _ _ _ _ ?side1 ?side2 A6.out) ?_; (case side1 => exact Kd.C_below HR5.out bel_); (case side2 => exact HC5.out); intro w4 hb; replace BK0 := bb_ BK0.out hb; replace BK1 := blkPB_ (cs := #[.int .u64 t0, .int .u64 t1, .int .u64 t2, .int .u64 t3]) BK1.out hb; replace HB := s_ hb; clear hb) | ((with_reducible refine gate_dst (N := 16) rfl ?_); refine boxE_ (cs := #[.int .u64 0, .int .u64 0, .int .u64 0, .int .u64 0]) (t := 29) ?_; intro gb2 hg w5 hbox hb; have BK2 := a_ (hbox); have GW2 := sizeB_ hg; replace HB := s_ hb; obtain ⟨NB1, NB3⟩ := ne2_ BK0.out hg; replace BK0 := bb_ BK0.out hb; obtain ⟨NB4, NB5⟩ := ne2_ BK1.out hg; replace BK1 := bb_ BK1.out hb; clear hb hbox hg; have hnb1 := NB3.out; have hnc1 := NB1.out; have hnb2 := NB5.out; have hnc2 := NB4.out; obtain ⟨z4, z5, z6, z7, f4, f5, f6, f7⟩ := cz4_ BK2.out))
 (try simp only [Act.put, List.setIfInBounds_toArray, List.set_cons_zero, List.set_cons_succ])
 go_cut [44] (fun v0 wc => ∃ (kq : Nat) (x0 : Bool), v0 = .bool x0 ∧ Aside0 (spec_ClashOfPaths.j0 kq a0 a1 a2 l3 a3 l4 x0 = some (r0, r1, r2)) ∧ Aside0 (kq ≤ k) ∧ Aside0 (wc.heap[gb0]? = some (.cells #[.string (⟨#[]⟩ : ByteArray), .string (⟨#[]⟩ : ByteArray)] 46 (0, 0))) ∧ Aside0 (wc.heap[gb1]? = some (.cells #[.int .u64 t0, .int .u64 t1, .int .u64 t2, .int .u64 t3] 29 (0, 0))) ∧ Aside0 (wc.heap[gb2]? = some (.cells #[.int .u64 t4, .int .u64 t5, .int .u64 t6, .int .u64 t7] 29 (0, 0))) ∧ Aside0 (Below w.heap.size w wc))
 case first =>
  have H := HC9.out
  clear HC9
  by_cases c0 : t8 = true
  ·subst c0
   rw [if_pos rfl] at H
   by_cases c1 : t9 = true
   ·subst c1
    rw [if_pos rfl] at H
    have H' := a_ H
    clear H
    have hnb3 := NB2.out
    have hnc3 := NB0.out
    have hnb4 := NB4.out
    have hnc4 := NB5.out
    obtain ⟨z8, z9, z10, z11, f8, f9, f10, f11⟩ := cz4_ BK1.out
    have hnb5 := NB3.out
    have hnc5 := NB1.out
    obtain ⟨z12, z13, z14, z15, f12, f13, f14, f15⟩ := cz4_ BK2.out
    go_wp2
    go_meet
    case rel => exact ⟨_, ((!(t0 == t4) || (!(t1 == t5) || (!(t2 == t6) || (!(t3 == t7)))))), rl_, H', ⟨by first | omega | exact Nat.le_refl _⟩, ⟨blkU_ BK0.out⟩, ⟨blkU_ BK1.out⟩, ⟨blkF_ BK2.out⟩, ⟨bel_⟩⟩
   ·replace c1 := Bool.eq_false_iff.mpr c1
    subst c1
    rw [if_neg (show ¬ (false = true) by decide)] at H
    have H' := a_ H
    clear H
    go_wp2
    go_meet
    case rel => exact ⟨_, (true), rl_, H', ⟨by first | omega | exact Nat.le_refl _⟩, ⟨blkU_ BK0.out⟩, ⟨blkU_ BK1.out⟩, ⟨blkF_ BK2.out⟩, ⟨bel_⟩⟩
  ·replace c0 := Bool.eq_false_iff.mpr c0
   subst c0
   rw [if_neg (show ¬ (false = true) by decide)] at H
   have H' := a_ H
   clear H
   go_wp2
   go_meet
   case rel => exact ⟨_, (true), rl_, H', ⟨by first | omega | exact Nat.le_refl _⟩, ⟨blkU_ BK0.out⟩, ⟨blkU_ BK1.out⟩, ⟨blkF_ BK2.out⟩, ⟨bel_⟩⟩
 case rest =>
  clear HC9
  (try clear c3); (try clear c5); (try clear c0); (try clear c1); (try clear z0 z1 z2 z3); (try clear z4 z5 z6 z7); (try clear z8 z9 z10 z11); (try clear z12 z13 z14 z15); (try clear f0 f1 f2 f3); (try clear f4 f5 f6 f7); (try clear f8 f9 f10 f11); (try clear f12 f13 f14 f15)
  obtain ⟨kq, x0, rfl, HA, HJ8, BK0, BK1, BK2, HB⟩ := hcut
  cases kq with
  | zero => exact absurd HA.out (by simp [spec_ClashOfPaths.j0])
  | succ kj0 =>
   have H := HA.out
   clear HA
   simp only [spec_ClashOfPaths.j0] at H
   by_cases c11 : x0 = true
   ·subst c11
    rw [if_pos rfl] at H
    simp only [Option.some.injEq, Prod.mk.injEq] at H
    obtain ⟨rfl, rfl, rfl⟩ := H
    have hnb6 := NB0.out
    have hnc6 := NB2.out
    have hnb7 := NB1.out
    have hnc7 := NB3.out
    obtain ⟨z16, z17, f16, f17⟩ := cz2_ BK0.out
    go_wp2
    refine bodyPost_ret (results_ct rfl _ _ gb0 46 #[.string (⟨#[]⟩ : ByteArray), .string (⟨#[]⟩ : ByteArray)] (0, 0) _ rfl (blkF_ BK0.out) Try.underlying46 rfl (by kernel_rfl)) rfl ?_
    exact ⟨rfl_, bel_⟩
   ·replace c11 := Bool.eq_false_iff.mpr c11
    subst c11
    rw [if_neg (show ¬ (false = true) by decide)] at H
    obtain ⟨t12, A2, H⟩ := bnd_ H
    obtain ⟨t13, A3, H⟩ := bnd_ H
    obtain ⟨⟨t10, t11, t14⟩, A4, H⟩ := bnd_ H
    dsimp only at H
    simp only [Option.some.injEq, Prod.mk.injEq] at H
    obtain ⟨rfl, rfl, rfl⟩ := H
    go_wp2_with (first | (refine gcL_ 48 (some 50) Try.func48 #[.int .i64 a0, .int .i64 a1, .string a2, .slice A0 l3.length c3] ?_; (with_reducible refine (spec_l4Down.calls _ _ _ _ _ _ _ _ _ ?side1 ?side2 A2.out).mono ?_); (case side1 => exact cU_ (Kd.C_below HR3.out HB.out)); (case side2 => exact HC3.out); rintro e w6 ⟨v1, rfl, ho0, hb⟩; refine ⟨_, rfl, ?_⟩; have HO0 := a_ (Kd.R_lower ho0 (below_size bel_)); replace BK0 := bb_ BK0.out hb; replace BK1 := bb_ BK1.out hb; replace BK2 := bb_ BK2.out hb; replace HB := s_ hb; clear hb; (try clear ho0)) | (refine gcL_ 48 (some 55) Try.func48 #[.int .i64 a0, .int .i64 a1, .string a3, .slice A1 l4.length c5] ?_; (with_reducible refine (spec_l4Down.calls _ _ _ _ _ _ _ _ _ ?side1 ?side2 A3.out).mono ?_); (case side1 => exact cU_ (Kd.C_below HR5.out HB.out)); (case side2 => exact HC5.out); rintro e w7 ⟨v2, rfl, ho0, hb⟩; refine ⟨_, rfl, ?_⟩; have HO1 := a_ (Kd.R_lower (Kd.R_new' ho0 (Kd.R_lt (kdU_ HO0.out))) (below_size bel_)); replace HO0 := a_ (Kd.R_elder' (kdU_ HO0.out) (Kd.R_base ho0) hb); replace BK0 := bb_ BK0.out hb; replace BK1 := bb_ BK1.out hb; replace BK2 := bb_ BK2.out hb; replace HB := s_ hb; clear hb; (try clear ho0); obtain ⟨Ao0, co0, eo0⟩ := Kd.R_slice HO0.out; subst eo0; obtain ⟨Ao1, co1, eo1⟩ := Kd.R_slice HO1.out; subst eo1) | (refine gcB_ 47 56 Try.func47 (spec_ClashFirst.calls _ _ _ _ _ _ _ _ _ _ _ ?side1 ?side2 ?side3 ?side4 A4.out) ?_; (case side1 => exact cU_ (Kd.R_reads' HO0.out).2.2); (case side2 => exact (Kd.R_reads' HO0.out).2.1); (case side3 => exact cU_ (Kd.R_reads' HO1.out).2.2); (case side4 => exact (Kd.R_reads' HO1.out).2.1); intro w9 hb; replace HO0 := rb_ HO0.out hb; replace HO1 := rb_ HO1.out hb; replace BK0 := bb_ BK0.out hb; replace BK1 := bb_ BK1.out hb; replace BK2 := bb_ BK2.out hb; replace HB := s_ hb; clear hb; have hnb8 := NB0.out; have hnc8 := NB2.out; have hnb9 := NB1.out; have hnc9 := NB3.out; obtain ⟨z18, z19, f18, f19⟩ := cz2_ BK0.out))
    refine bodyPost_ret (results_ct rfl _ _ gb0 46 #[.string t10, .string t11] (0, 0) _ rfl (blkF_ BK0.out) Try.underlying46 rfl (by kernel_rfl)) rfl ?_
    exact ⟨rfl_, bel_⟩
end
end
end Go.Proofs.Ytflckegggopdnaa.B
