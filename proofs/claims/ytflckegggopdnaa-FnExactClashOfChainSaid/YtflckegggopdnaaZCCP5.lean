/- Texts that this claim's law leans on, without what nothing names. What each says stands at its theorems; conditions stand in them. (Put together by the session's program shake.py; Lean checks it.) -/
import Derived.Test.YtflckegggopdnaaZCCP0
import Derived.Test.YtflckegggopdnaaZCCP2
import Derived.Test.YtflckegggopdnaaZCCP4
import Derived.Test.YtflckegggopdnaaZCCP3
import Derived.Test.YtflckegggopdnaaZCCP6
import Derived.Test.YtflckegggopdnaaZCCGLawD1
import Derived.Test.YtflckegggopdnaaZCCGSpecHash1
import Derived.Test.YtflckegggopdnaaZCCP8
set_option linter.unusedVariables false
set_option maxHeartbeats 8000000
set_option maxRecDepth 100000
set_option linter.unusedSimpArgs false
namespace Go.Proofs.Ytflckegggopdnaa.B
section
open Go.RowKit Go.Proofs.YtflckegggopdnaaW
section
def impl_HashBytes.l0 : Nat → List Int → List Int → Int → Int → Option (ByteArray)
 | 0, _, _, _, _ => none
 | k + 1, x3, x1, x2, x0 => if x0 < x2 then (if 0 ≤ x0 then (if x0 < (x1.length : Int) then ((binary_bigEndian_AppendUint64.f x3 (rd x1 x0)).bind fun t0 => (impl_HashBytes.l0 k t0 x1 x2 (wrap64 (x0 + 1)))) else (none)) else (none)) else (some (strOfNums x3))
def impl_HashBytes.f (k : Nat) (a0 a1 a2 a3 : Int) : Option (ByteArray) := (some (([a0, a1, a2, a3] : List Int) : List Int)).bind fun y0 => (impl_HashBytes.l0 k ([] : List Int) y0 (y0.length : Int) 0)
theorem impl_HashBytes.calls (k : Nat) (a0 a1 a2 a3 : Int) (r : ByteArray) (w : World) (h : impl_HashBytes.f k a0 a1 a2 a3 = some r) :
  Calls Try.prog 123 #[.agg #[.int .u64 a0, .int .u64 a1, .int .u64 a2, .int .u64 a3]] w fun e w' => e = .returned (.string r) ∧ Below w.heap.size w w' := by
 have hu29 := Try.underlying29
 have hu141 := Try.underlying141
 have HB := rB_ w
 have H := h
 unfold impl_HashBytes.f at H
 clear h
 obtain ⟨y0, hy0⟩ : ∃ y_ : List Int, y_ = (([a0, a1, a2, a3] : List Int)) := ⟨_, rfl⟩
 replace H : (impl_HashBytes.l0 k ([] : List Int) y0 (y0.length : Int) 0) = some r := rpl_ hy0 H
 have Ny0 := a_ hy0
 clear hy0
 have H' := a_ H
 clear H
 go_enter Try.func123, Try.ntmps123
 go_wp2_with (first | (refine bx_ 1 #[.int .u64 a0, .int .u64 a1, .int .u64 a2, .int .u64 a3] 29 ?_; intro gb0 w2 hg hb BK0 GW0; replace HB := s_ hb; clear hb hg; obtain ⟨z0, z1, z2, z3, f0, f1, f2, f3⟩ := cz4_ BK0.out) | ((with_reducible refine gate_dst (N := 14) rfl ?_); refine Kd.R_lit (Kd.int .u64) _ 22 ?hg (N := 14) ?hd (xs := ([a0, a1, a2, a3] : List Int)) (inner := [.int .u64 a0, .int .u64 a1, .int .u64 a2, .int .u64 a3]) (ok := fun _ => True) (okp := fun _ => True) ?hr ?hp (fun _ hk => hk) trivial (Below.refl _ _) (Nat.le_refl _) (by simp) ?_; (case hd => rfl); (case hg => rfl); (case hr => first | (go_simp; done) | (go_simp; rfl)); (case hp => exact (Reps.one (show Kd.M (Kd.int .u64) _ _ _ a0 [.int .u64 a0] from rfl) (Reps.one (show Kd.M (Kd.int .u64) _ _ _ a1 [.int .u64 a1] from rfl) (Reps.one (show Kd.M (Kd.int .u64) _ _ _ a2 [.int .u64 a2] from rfl) (Reps.one (show Kd.M (Kd.int .u64) _ _ _ a3 [.int .u64 a3] from rfl) (Reps.none _ _)))))); intro v2 w3 ho0 hb hg_ hnew_; clear hg_ hnew_; (first | rw [← Ny0.out] at ho0 | (simp only [Int.reduceToNat] at ho0; rw [← Ny0.out] at ho0)); have HO0 := a_ (Kd.R_lower ho0 (below_size bel_)); replace BK0 := bb_ BK0.out hb; replace HB := s_ hb; clear hb ho0; obtain ⟨Ao1, co1, eo1⟩ := Kd.R_slice HO0.out; subst eo1))
 go_loopg [3, 16] k (fun kq v1 v0 w' => ∃ (x1 : List Int) (x0 : Int), v0 = .int .i64 x0 ∧ Aside0 (impl_HashBytes.l0 kq x1 y0 (y0.length : Int) x0 = some r) ∧ Aside0 (kq ≤ k) ∧ Aside0 (Kd.R (Kd.int .u8) 5 w' w.heap.size (fun _ => True) v1 x1) ∧ Aside0 (Kd.R (Kd.int .u64) 22 w' w.heap.size (fun _ => True) (.slice Ao1 y0.length co1) y0) ∧ Aside0 (w'.heap[gb0]? = some (.cells #[.int .u64 a0, .int .u64 a1, .int .u64 a2, .int .u64 a3] 29 (0, 0))) ∧ Aside0 (Below w.heap.size w w'))
 case atStart => exact ⟨(([] : List Int)), (0), rl_, H', ⟨Nat.le_refl _⟩, ⟨by first | exact Kd.R_nil _ _ _ _ _ | exact Kd.N_nil _ _ _ _ _ | exact Kd.V_nil _ _ _ _ _ | exact Kd.Q_nil _ _ _ _ _ | exact Kd.S_nil _ _ _ _ _⟩, ⟨kdU_ HO0.out⟩, ⟨blkU_ BK0.out⟩, ⟨bel_⟩⟩
 case round =>
  clear H'
  (try clear z0 z1 z2 z3); (try clear f0 f1 f2 f3)
  obtain ⟨x1, x0, rfl, HA, HK1, HO_0, HO_1, BK0, HB⟩ := hrel
  cases gk with
  | zero => exact absurd HA.out (by simp [impl_HashBytes.l0])
  | succ k1 =>
   have H := HA.out
   clear HA
   simp only [impl_HashBytes.l0] at H
   by_cases c7 : x0 < (y0.length : Int)
   ·rw [if_pos c7] at H
    have c0 := decide_eq_true c7
    clear c7
    obtain ⟨c1, H⟩ := ifd_ H
    obtain ⟨c11, H⟩ := ifd_ H
    obtain ⟨t0, A0, H⟩ := bnd_ H
    have H' := a_ H
    clear H
    have p0 : 0 ≤ (x0 : Int) := ofd_
    have q0 : x0 < (y0.length : Int) := ofd_
    obtain ⟨ad0, e0, hx0⟩ := Kd.at_int (Kd.R_reads' HO_1.out).2.2 x0 p0 q0
    cases e0
    replace p0 := eq_true p0
    replace q0 := eq_true q0
    obtain ⟨Ao0, co0, eo0⟩ := Kd.R_slice HO_0.out
    subst eo0
    go_wp2_with (first | (refine gcL_ 111 (some 23) Try.func111 #[.agg #[], .slice Ao0 x1.length co0, .int .u64 (rd y0 x0)] ?_; (with_reducible refine (binary_bigEndian_AppendUint64.calls (fun k_ => some k_ = (.slice Ao0 x1.length co0 : Value).ownBlock) (.slice Ao0 x1.length co0) _ _ _ w _ ?side1 ?side2 A0.out).mono ?_); (case side1 => exact bel_); (case side2 => exact Kd.R_tight rfl HO_0.out); rintro e w1 ⟨v3, rfl, ho1, hb, hkp⟩; refine ⟨_, rfl, ?_⟩; replace HO_1 := a_ (Kd.R_mono (ok' := fun k_ => True) (Kd.R_keptB ((Kd.R_apart' HO_1.out (Kd.R_typed HO_0.out) (by decide))) hkp (fun k_ hk_ hs_ => (hk_.2) hs_)) (fun k_ hk_ => trivial)); replace BK0 := a_ (blk_kept (blkU_ BK0.out) hkp (fun hs_ => (fun e_ => (Kd.R_ne HO_0.out BK0.out (by decide)) e_) hs_)); have HO1 := a_ (Kd.R_mono (ok' := fun k_ => True) ho1 (fun k_ hk_ => trivial)); replace HB := a_ (hb); clear HO_0; clear hb; (try clear hkp); (try clear ho1)))
    go_roundg k1
    case measure => have := HK1.out; omega
    case rel => exact ⟨(t0), (wrap64 (x0 + 1)), rl_, H', ⟨by have := HK1.out; omega⟩, ⟨kdU_ HO1.out⟩, ⟨kdU_ HO_1.out⟩, ⟨blkU_ BK0.out⟩, ⟨bel_⟩⟩
   ·rw [if_neg c7] at H
    have c0 := decide_eq_false c7
    clear c7
    obtain rfl := Option.some.inj H
    have hcv0 := own_string (P := Try.prog) Try.underlying60 Try.underlying5 Try.underlying9 (Kd.own_of_R HO_0.out)
    go_wp2
    go_ret
    exact ⟨rfl_, bel_⟩
end
section
def impl_pairText.f (k : Nat) (a0 a1 a2 a3 a4 a5 a6 a7 : Int) : Option (ByteArray) := (impl_HashBytes.f k a0 a1 a2 a3).bind fun t0 => (if 1 + t0.size ≤ 9223372036854775807 then ((impl_HashBytes.f k a4 a5 a6 a7).bind fun t1 => (if ((⟨#[1]⟩ : ByteArray) ++ t0).size + t1.size ≤ 9223372036854775807 then (some (((⟨#[1]⟩ : ByteArray) ++ t0) ++ t1)) else (none))) else (none))
theorem impl_pairText.calls (k : Nat) (a0 a1 a2 a3 a4 a5 a6 a7 : Int) (r : ByteArray) (w : World) (h : impl_pairText.f k a0 a1 a2 a3 a4 a5 a6 a7 = some r) :
  Calls Try.prog 98 #[.agg #[.int .u64 a0, .int .u64 a1, .int .u64 a2, .int .u64 a3], .agg #[.int .u64 a4, .int .u64 a5, .int .u64 a6, .int .u64 a7]] w fun e w' => e = .returned (.string r) ∧ Below w.heap.size w w' := by
 have hu29 := Try.underlying29
 have HB := rB_ w
 have H := h
 unfold impl_pairText.f at H
 clear h
 obtain ⟨t0, A0, H⟩ := bnd_ H
 obtain ⟨c4, H⟩ := ifn_ H
 have c1 := eq_true c4
 have c11 := decide_eq_true c4
 try have c12 : (9223372036854775807 < 1 + t0.size) = False := eq_false (Nat.not_lt.2 c4)
 obtain ⟨t1, A1, H⟩ := bnd_ H
 obtain ⟨c6, H⟩ := ifn_ H
 have c13 := eq_true c6
 have c0 := decide_eq_true c6
 try (have c6b1n := c0; simp only [ByteArray.size_append, Int.natCast_add] at c6b1n)
 try have c14 : (9223372036854775807 < ((⟨#[1]⟩ : ByteArray) ++ t0).size + t1.size) = False := eq_false (Nat.not_lt.2 c6)
 obtain rfl := Option.some.inj H
 go_enter Try.func98, Try.ntmps98
 try go_wp2_with (first | (refine bx_ 2 #[.int .u64 a0, .int .u64 a1, .int .u64 a2, .int .u64 a3] 29 ?_; intro gb0 w3 hg hb BK0 GW0; replace HB := s_ hb; clear hb hg) | (refine bx_ 3 #[.int .u64 a4, .int .u64 a5, .int .u64 a6, .int .u64 a7] 29 ?_; intro gb1 w8 hg hb BK1 GW1; replace HB := s_ hb; obtain ⟨NB0, NB1⟩ := ne2_ BK0.out hg; replace BK0 := bb_ BK0.out hb; clear hb hg))
 replace BK0 := a_ (blk_drew BK0.out)
 replace BK1 := a_ (blk_drew BK1.out)
 replace HB := a_ (below_drew1 HB.out)
 refine start_ (n := 7) (S := fun w' => hdc4_ w' gb0 (.int .u64 a0) (.int .u64 a1) (.int .u64 a2) (.int .u64 a3) (hd4_ w' gb1 (.int .u64 a4) (.int .u64 a5) (.int .u64 a6) (.int .u64 a7))) (ds := []) #[false, false, false, false, false, false, false] (by kernel_rfl) rfl rfl (hcc4_ BK0.out (hc4_ BK1.out)) (fun hHeld => ?_)
 generalize w8.drew = w4 at BK0 BK1 HB hHeld ⊢
 refine take_ (i := 0) (N := some 5) (v := ?_) (a' := ?_) #[true, false, false, false, false, false, false] rfl rfl (by kernel_rfl) (fun _ _ _ h => h) (Or.inl ⟨by rfl, ?_⟩) hHeld ?_ ?_
 rotate_left
 ·rintro w' ⟨s0, s1, s2, s3, s4, s5, s6, s7⟩
  go_simp
  first | with_reducible rfl | (rw [if_neg (by intro h_; (try simp only [ByteArray.size_append, ByteArray.size_extract, eq_iff_iff, iff_true, show (⟨#[1]⟩ : ByteArray).size = 1 from rfl] at *); omega)]; first | done | rfl)
 rotate_left
 ·simp only [Act.put, List.setIfInBounds_toArray, List.set_cons_zero, List.set_cons_succ, i64_w, i32_w]
  rfl
 refine take_ (i := 3) (N := some 8) (v := ?_) (a' := ?_) #[true, false, false, true, false, false, false] rfl rfl (by kernel_rfl) (fun _ _ _ h => h) (Or.inl ⟨by rfl, ?_⟩) hHeld ?_ ?_
 rotate_left
 ·rintro w' ⟨s0, s1, s2, s3, s4, s5, s6, s7⟩
  go_simp
  first | with_reducible rfl | (rw [if_neg (by intro h_; (try simp only [ByteArray.size_append, ByteArray.size_extract, eq_iff_iff, iff_true, show (⟨#[1]⟩ : ByteArray).size = 1 from rfl] at *); omega)]; first | done | rfl)
 rotate_left
 ·simp only [Act.put, List.setIfInBounds_toArray, List.set_cons_zero, List.set_cons_succ, i64_w, i32_w]
  rfl
 refine one_ (i := 1) (N := some 6) #[true, true, false, true, false, false, false] rfl rfl (by kernel_rfl) (by decide) (fun K hK => ?_)
 refine goN_ Try.func123 #[.agg #[.int .u64 a0, .int .u64 a1, .int .u64 a2, .int .u64 a3]] ?_
 with_reducible refine (impl_HashBytes.calls _ _ _ _ _ _ _ A0.out).mono ?_
 rintro e w1 ⟨rfl, hb⟩
 refine ⟨_, rfl, ?_⟩
 replace BK0 := bb_ BK0.out hb
 replace BK1 := bb_ BK1.out hb
 replace HB := s_ hb
 (try clear hb)
 refine hK.out _ _ (hcc4_ BK0.out (hc4_ BK1.out)) (fun hHeld => ?_)
 clear hK K
 refine normP_ (some 6) ?_
 refine pure_ (i := 2) (N := some 7) (v := ?_) (a' := ?_) #[true, true, true, true, false, false, false] rfl rfl (by kernel_rfl) (fun _ _ _ h => h) (Or.inl ⟨by rfl, ?_⟩) ?_ ?_
 rotate_left
 ·intro w'
  go_simp
  first | with_reducible rfl | (rw [if_neg (by intro h_; (try simp only [ByteArray.size_append, ByteArray.size_extract, eq_iff_iff, iff_true, show (⟨#[1]⟩ : ByteArray).size = 1 from rfl] at *); omega)]; first | done | rfl)
 rotate_left
 ·simp only [Act.put, List.setIfInBounds_toArray, List.set_cons_zero, List.set_cons_succ, i64_w, i32_w]
  rfl
 refine one_ (i := 4) (N := some 9) #[true, true, true, true, true, false, false] rfl rfl (by kernel_rfl) (by decide) (fun K hK => ?_)
 refine goN_ Try.func123 #[.agg #[.int .u64 a4, .int .u64 a5, .int .u64 a6, .int .u64 a7]] ?_
 with_reducible refine (impl_HashBytes.calls _ _ _ _ _ _ _ A1.out).mono ?_
 rintro e w2 ⟨rfl, hb⟩
 refine ⟨_, rfl, ?_⟩
 replace BK0 := bb_ BK0.out hb
 replace BK1 := bb_ BK1.out hb
 replace HB := s_ hb
 (try clear hb)
 refine hK.out _ _ (hcc4_ BK0.out (hc4_ BK1.out)) (fun hHeld => ?_)
 clear hK K
 refine normP_ (some 9) ?_
 refine pure_ (i := 5) (N := some 10) (v := ?_) (a' := ?_) #[true, true, true, true, true, true, false] rfl rfl (by kernel_rfl) (fun _ _ _ h => h) (Or.inl ⟨by rfl, ?_⟩) ?_ ?_
 rotate_left
 ·intro w'
  go_simp
  first | with_reducible rfl | (rw [if_neg (by intro h_; (try simp only [ByteArray.size_append, ByteArray.size_extract, eq_iff_iff, iff_true, show (⟨#[1]⟩ : ByteArray).size = 1 from rfl] at *); omega)]; first | done | rfl)
 rotate_left
 ·simp only [Act.put, List.setIfInBounds_toArray, List.set_cons_zero, List.set_cons_succ, i64_w, i32_w]
  rfl
 refine pure_ (i := 6) (N := some 4) (v := ?_) (a' := ?_) #[true, true, true, true, true, true, true] rfl rfl (by kernel_rfl) (fun _ _ _ h => h) (Or.inl ⟨by rfl, ?_⟩) ?_ ?_
 rotate_left
 ·intro w'
  go_simp
  first | with_reducible rfl | (rw [if_neg (by intro h_; (try simp only [ByteArray.size_append, ByteArray.size_extract, eq_iff_iff, iff_true, show (⟨#[1]⟩ : ByteArray).size = 1 from rfl] at *); omega)]; first | done | rfl)
 rotate_left
 ·simp only [Act.put, List.setIfInBounds_toArray, List.set_cons_zero, List.set_cons_succ, i64_w, i32_w]
  rfl
 refine done_ (by kernel_rfl) ?_
 try go_wp2
 go_ret
 exact ⟨rfl_, bel_⟩
end
section
def impl_HashPair.f (k : Nat) (a0 a1 a2 a3 a4 a5 a6 a7 : Int) : Option (Int × Int × Int × Int) := (impl_pairText.f k a0 a1 a2 a3 a4 a5 a6 a7).bind fun t0 => ((impl_HashOf.f k t0).bind fun bt0 => (some (bt0.1, bt0.2.1, bt0.2.2.1, bt0.2.2.2)))
theorem impl_HashPair.calls (k : Nat) (a0 a1 a2 a3 a4 a5 a6 a7 r0 r1 r2 r3 : Int) (w : World) (h : impl_HashPair.f k a0 a1 a2 a3 a4 a5 a6 a7 = some (r0, r1, r2, r3)) :
  Calls Try.prog 110 #[.agg #[.int .u64 a0, .int .u64 a1, .int .u64 a2, .int .u64 a3], .agg #[.int .u64 a4, .int .u64 a5, .int .u64 a6, .int .u64 a7]] w fun e w' => e = .returned (.agg #[.int .u64 r0, .int .u64 r1, .int .u64 r2, .int .u64 r3]) ∧ Below w.heap.size w w' := by
 have hu29 := Try.underlying29
 have HB := rB_ w
 have H := h
 unfold impl_HashPair.f at H
 clear h
 obtain ⟨t4, A0, H⟩ := bnd_ H
 obtain ⟨⟨t0, t1, t2, t3⟩, A1, H⟩ := bnd_ H
 dsimp only at H
 simp only [Option.some.injEq, Prod.mk.injEq] at H
 obtain ⟨rfl, rfl, rfl, rfl⟩ := H
 go_enter Try.func110, Try.ntmps110
 go_wp2_with (first | (refine bx_ 2 #[.int .u64 a0, .int .u64 a1, .int .u64 a2, .int .u64 a3] 29 ?_; intro gb1 w3 hg hb BK0 GW0; replace HB := s_ hb; clear hb hg) | (refine bx_ 3 #[.int .u64 a4, .int .u64 a5, .int .u64 a6, .int .u64 a7] 29 ?_; intro gb2 w4 hg hb BK1 GW1; replace HB := s_ hb; obtain ⟨NB0, NB2⟩ := ne2_ BK0.out hg; replace BK0 := bb_ BK0.out hb; clear hb hg) | (refine bx_ 4 #[.int .u64 0, .int .u64 0, .int .u64 0, .int .u64 0] 29 ?_; intro gb0 w5 hg hb BK2 GW2; replace HB := s_ hb; obtain ⟨NB1, NB4⟩ := ne2_ BK0.out hg; replace BK0 := bb_ BK0.out hb; obtain ⟨NB3, NB5⟩ := ne2_ BK1.out hg; replace BK1 := bb_ BK1.out hb; clear hb hg; have hnb1 := NB0.out; have hnc1 := NB2.out; have hnb2 := NB1.out; have hnc2 := NB4.out; obtain ⟨z0, z1, z2, z3, f0, f1, f2, f3⟩ := cz4_ BK0.out; have hnb0 := NB3.out; have hnc0 := NB5.out; obtain ⟨z4, z5, z6, z7, f4, f5, f6, f7⟩ := cz4_ BK1.out) | (refine gcB_ 98 7 Try.func98 (impl_pairText.calls _ _ _ _ _ _ _ _ _ _ _ A0.out) ?_; intro w1 hb; replace BK0 := bb_ BK0.out hb; replace BK1 := bb_ BK1.out hb; replace BK2 := bb_ BK2.out hb; replace HB := s_ hb; clear hb) | (refine gcB_ 68 8 Try.func68 (impl_HashOf.calls _ _ _ _ _ _ _ A1.out) ?_; intro w2 hb; replace BK0 := bb_ BK0.out hb; replace BK1 := bb_ BK1.out hb; replace BK2 := bb_ BK2.out hb; replace HB := s_ hb; clear hb; obtain ⟨z8, z9, z10, z11, f8, f9, f10, f11⟩ := cz4_ BK2.out))
 refine bodyPost_ret (results_cell_row rfl _ _ gb0 29 #[.int .u64 t0, .int .u64 t1, .int .u64 t2, .int .u64 t3] (0, 0) _ rfl (blkF_ BK2.out) Try.underlying29 rfl (by kernel_rfl)) rfl ?_
 exact ⟨rfl_, bel_⟩
end
section
def impl_leafText.f (a0 : ByteArray) : Option (ByteArray) := if 1 + a0.size ≤ 9223372036854775807 then (some ((⟨#[0]⟩ : ByteArray) ++ a0)) else (none)
theorem impl_leafText.calls (a0 r : ByteArray) (w : World) (h : impl_leafText.f a0 = some r) :
  Calls Try.prog 100 #[.string a0] w fun e w' => e = .returned (.string r) ∧ Drawn0 w w' := by
 have H := h
 unfold impl_leafText.f at H
 clear h
 obtain ⟨c2, H⟩ := ifn_ H
 have c0 := eq_true c2
 have c1 := decide_eq_true c2
 try have c11 : (9223372036854775807 < 1 + a0.size) = False := eq_false (Nat.not_lt.2 c2)
 obtain rfl := Option.some.inj H
 go_enter Try.func100, Try.ntmps100
 go_wp2
 go_ret
 exact ⟨rl_, dr_⟩
end
section
def impl_HashLeaf.f (k : Nat) (a0 : ByteArray) : Option (Int × Int × Int × Int) := (impl_leafText.f a0).bind fun t0 => ((impl_HashOf.f k t0).bind fun bt0 => (some (bt0.1, bt0.2.1, bt0.2.2.1, bt0.2.2.2)))
theorem impl_HashLeaf.calls (k : Nat) (a0 : ByteArray) (r0 r1 r2 r3 : Int) (w : World) (h : impl_HashLeaf.f k a0 = some (r0, r1, r2, r3)) :
  Calls Try.prog 108 #[.string a0] w fun e w' => e = .returned (.agg #[.int .u64 r0, .int .u64 r1, .int .u64 r2, .int .u64 r3]) ∧ Below w.heap.size w w' := by
 have hu29 := Try.underlying29
 have HB := rB_ w
 have H := h
 unfold impl_HashLeaf.f at H
 clear h
 obtain ⟨t4, A0, H⟩ := bnd_ H
 obtain ⟨⟨t0, t1, t2, t3⟩, A1, H⟩ := bnd_ H
 dsimp only at H
 simp only [Option.some.injEq, Prod.mk.injEq] at H
 obtain ⟨rfl, rfl, rfl, rfl⟩ := H
 go_enter Try.func108, Try.ntmps108
 go_wp2_with (first | (refine bx_ 2 #[.int .u64 0, .int .u64 0, .int .u64 0, .int .u64 0] 29 ?_; intro gb0 w1 hg hb BK0 GW0; replace HB := s_ hb; clear hb hg) | (refine gcD_ 100 4 Try.func100 (impl_leafText.calls _ _ _ A0.out) ?_; intro nd; (try (rw [drewN_self w1]; generalize hq_ : World.drewN w1 _ = w1; have n0_ : Aside0 (w1.heap[gb0]? = some (.cells #[.int .u64 0, .int .u64 0, .int .u64 0, .int .u64 0] 29 (0, 0))) := ⟨by rw [← hq_]; exact (blkU_ BK0.out)⟩; have n1_ : Aside0 (Below w.heap.size w w1) := ⟨by rw [← hq_]; exact bel_⟩; clear BK0 HB hq_; have BK0 := n0_; have HB := n1_; clear n0_ n1_))) | (refine gcB_ 68 5 Try.func68 (impl_HashOf.calls _ _ _ _ _ _ _ A1.out) ?_; intro w2 hb; replace BK0 := bb_ BK0.out hb; replace HB := s_ hb; clear hb; obtain ⟨z0, z1, z2, z3, f0, f1, f2, f3⟩ := cz4_ BK0.out))
 refine bodyPost_ret (results_cell_row rfl _ _ gb0 29 #[.int .u64 t0, .int .u64 t1, .int .u64 t2, .int .u64 t3] (0, 0) _ rfl (blkF_ BK0.out) Try.underlying29 rfl (by kernel_rfl)) rfl ?_
 exact ⟨rfl_, bel_⟩
end
section
def impl_digestBy.f : Nat → MapD → Int → Int → Option (Int × Int × Int × Int)
 | 0, _, _, _ => none
 | k + 1, a0, a1, a2 => (impl_lookAt.f a0 a1 a2).bind fun bt0 => (if bt0.2.2.2.2 = true then (some (bt0.1, bt0.2.1, bt0.2.2.1, bt0.2.2.2.1)) else ((impl_node_halves.f k a1 a2).bind fun bt1 => ((impl_digestBy.f k a0 bt1.1 bt1.2.1).bind fun bt2 => ((impl_digestBy.f k a0 bt1.2.2.1 bt1.2.2.2).bind fun bt3 => ((impl_HashPair.f k bt2.1 bt2.2.1 bt2.2.2.1 bt2.2.2.2 bt3.1 bt3.2.1 bt3.2.2.1 bt3.2.2.2).bind fun bt4 => (some (bt4.1, bt4.2.1, bt4.2.2.1, bt4.2.2.2)))))))
def impl_digestBy.T5 : TT_ := (true, [([], []), ([], []), ([0, 1], [0, 1]), ([], []), ([], []), ([3, 4, 2], [3, 4]), ([2, 5, 5], [2, 5]), ([6, 6, 0, 1, 2, 3, 4, 5, 6], [6])])
def impl_digestBy.B5 : List Nat := [0, 0, 3, 0, 0, 31, 63, 127]
theorem impl_digestBy.tab5 : rtab .any (opsOf Try.f70 5) = impl_digestBy.T5 := by kernel_rfl
theorem impl_digestBy.bits5 : waitsOk impl_digestBy.T5.2 impl_digestBy.B5 = true := by kernel_rfl
theorem impl_digestBy.calls (k : Nat) : ∀ (a0 : MapD) (a1 a2 r0 r1 r2 r3 : Int) (w : World) (mb_ mn_ : Nat) (hI : IsM w mb_ mn_ a0) (h : impl_digestBy.f k a0 a1 a2 = some (r0, r1, r2, r3)),
  Calls Try.prog 70 #[.map (some mb_), .agg #[.int .i64 a1, .int .i64 a2]] w fun e w' => e = .returned (.agg #[.int .u64 r0, .int .u64 r1, .int .u64 r2, .int .u64 r3]) ∧ Below w.heap.size w w' := by
 induction k using Nat.strongRecOn with
 | _ k ih =>
 intro a0 a1 a2 r0 r1 r2 r3 w mb_ mn_ hI h
 cases k with
 | zero => exact absurd h (by simp [impl_digestBy.f])
 | succ k =>
 simp only [impl_digestBy.f] at h
 have hu100 := Try.underlying100
 have hu29 := Try.underlying29
 have HB := rB_ w
 have H : ((impl_lookAt.f a0 a1 a2).bind fun bt0 => (if bt0.2.2.2.2 = true then (some (bt0.1, bt0.2.1, bt0.2.2.1, bt0.2.2.2.1)) else ((impl_node_halves.f k a1 a2).bind fun bt1 => ((impl_digestBy.f k a0 bt1.1 bt1.2.1).bind fun bt2 => ((impl_digestBy.f k a0 bt1.2.2.1 bt1.2.2.2).bind fun bt3 => ((impl_HashPair.f k bt2.1 bt2.2.1 bt2.2.2.1 bt2.2.2.2 bt3.1 bt3.2.1 bt3.2.2.1 bt3.2.2.2).bind fun bt4 => (some (bt4.1, bt4.2.1, bt4.2.2.1, bt4.2.2.2)))))))) = some (r0, r1, r2, r3) := h
 clear h
 obtain ⟨⟨t4, t5, t6, t7, t16⟩, A0, H⟩ := bnd_ H
 dsimp only at H
 by_cases c4 : t16 = true
 ·subst c4
  rw [if_pos rfl] at H
  simp only [Option.some.injEq, Prod.mk.injEq] at H
  obtain ⟨rfl, rfl, rfl, rfl⟩ := H
  go_enter Try.func70, Try.ntmps70
  go_wp2_with (first | (refine bx_ 3 #[.int .i64 a1, .int .i64 a2] 100 ?_; intro gb3 w15 hg hb BK1 GW0; replace HB := s_ hb; clear hb hg) | (refine bx_ 4 #[.int .u64 0, .int .u64 0, .int .u64 0, .int .u64 0] 29 ?_; intro gb2 w16 hg hb BK0 GW1; replace HB := s_ hb; obtain ⟨NB2, NB3⟩ := ne2_ BK1.out hg; replace BK1 := bb_ BK1.out hb; clear hb hg; have hnb12 := NB2.out; have hnc12 := NB3.out; obtain ⟨z20, z21, f20, f21⟩ := cz2_ BK1.out) | ((with_reducible refine gate_dst (N := 12) rfl ?_); refine goLook_ (IsM.below hI bel_) A0.out ?_; intro w17 hb; replace BK1 := bb_ BK1.out hb; replace BK0 := bb_ BK0.out hb; replace HB := s_ hb; clear hb) | (refine bx_ 5 #[.int .u64 0, .int .u64 0, .int .u64 0, .int .u64 0] 29 ?_; intro gb4 w4 hg hb BK2 GW2; replace HB := s_ hb; obtain ⟨NB8, NB9⟩ := ne2_ BK1.out hg; replace BK1 := bb_ BK1.out hb; obtain ⟨NB4, NB5⟩ := ne2_ BK0.out hg; replace BK0 := bb_ BK0.out hb; clear hb hg; have hnb0 := NB9.out; have hnc0 := NB8.out; have hnb1 := NB5.out; have hnc1 := NB4.out; obtain ⟨z0, z1, z2, z3, f0, f1, f2, f3⟩ := cz4_ BK2.out; obtain ⟨z4, z5, z6, z7, f4, f5, f6, f7⟩ := cz4_ BK0.out))
  refine bodyPost_ret (results_cell_row rfl _ _ gb2 29 #[.int .u64 t4, .int .u64 t5, .int .u64 t6, .int .u64 t7] (0, 0) _ rfl (blkF_ BK0.out) Try.underlying29 rfl (by kernel_rfl)) rfl ?_
  exact ⟨rfl_, bel_⟩
 ·replace c4 := Bool.eq_false_iff.mpr c4
  subst c4
  rw [if_neg (show ¬ (false = true) by decide)] at H
  obtain ⟨⟨t0, t1, t2, t3⟩, A1, H⟩ := bnd_ H
  dsimp only at H
  obtain ⟨⟨t8, t9, t10, t11⟩, A2, H⟩ := bnd_ H
  dsimp only at H
  obtain ⟨⟨t12, t13, t14, t15⟩, A3, H⟩ := bnd_ H
  dsimp only at H
  obtain ⟨⟨t17, t18, t19, t20⟩, A4, H⟩ := bnd_ H
  dsimp only at H
  simp only [Option.some.injEq, Prod.mk.injEq] at H
  obtain ⟨rfl, rfl, rfl, rfl⟩ := H
  go_enter Try.func70, Try.ntmps70
  try go_wp2_with (first | (refine bx_ 3 #[.int .i64 a1, .int .i64 a2] 100 ?_; intro gb3 w5 hg hb BK1 GW0; replace HB := s_ hb; clear hb hg) | (refine bx_ 4 #[.int .u64 0, .int .u64 0, .int .u64 0, .int .u64 0] 29 ?_; intro gb2 w6 hg hb BK0 GW1; replace HB := s_ hb; obtain ⟨NB2, NB3⟩ := ne2_ BK1.out hg; replace BK1 := bb_ BK1.out hb; clear hb hg; have hnb2 := NB2.out; have hnc2 := NB3.out; obtain ⟨z8, z9, f8, f9⟩ := cz2_ BK1.out) | ((with_reducible refine gate_dst (N := 12) rfl ?_); refine goLook_ (IsM.below hI bel_) A0.out ?_; intro w7 hb; replace BK1 := bb_ BK1.out hb; replace BK0 := bb_ BK0.out hb; replace HB := s_ hb; clear hb) | (refine bx_ 5 #[.int .u64 0, .int .u64 0, .int .u64 0, .int .u64 0] 29 ?_; intro gb4 w9 hg hb BK2 GW2; replace HB := s_ hb; obtain ⟨NB8, NB9⟩ := ne2_ BK1.out hg; replace BK1 := bb_ BK1.out hb; obtain ⟨NB4, NB5⟩ := ne2_ BK0.out hg; replace BK0 := bb_ BK0.out hb; clear hb hg; have hnb3 := NB9.out; have hnc3 := NB8.out; have hnb4 := NB5.out; have hnc4 := NB4.out; obtain ⟨z10, z11, z12, z13, f10, f11, f12, f13⟩ := cz4_ BK2.out; obtain ⟨z14, z15, f14, f15⟩ := cz2_ BK1.out) | (refine gcB_ 77 19 Try.func77 (impl_node_halves.calls _ _ _ _ _ _ _ _ A1.out) ?_; intro w10 hb; replace BK1 := bb_ BK1.out hb; replace BK0 := bb_ BK0.out hb; replace BK2 := blkPB_ (cs := #[.int .u64 t4, .int .u64 t5, .int .u64 t6, .int .u64 t7]) BK2.out hb; replace HB := s_ hb; clear hb) | (refine bx_ 7 #[.int .i64 0, .int .i64 0] 100 ?_; intro gb0 w11 hg hb BK3 GW3; replace HB := s_ hb; obtain ⟨NB10, NB14⟩ := ne2_ BK1.out hg; replace BK1 := bb_ BK1.out hb; obtain ⟨NB6, NB0⟩ := ne2_ BK0.out hg; replace BK0 := bb_ BK0.out hb; obtain ⟨NB12, NB15⟩ := ne2_ BK2.out hg; replace BK2 := bb_ BK2.out hb; clear hb hg) | (refine bx_ 8 #[.int .i64 0, .int .i64 0] 100 ?_; intro gb1 w1 hg hb BK4 GW4; replace HB := s_ hb; obtain ⟨NB11, NB17⟩ := ne2_ BK1.out hg; replace BK1 := bb_ BK1.out hb; obtain ⟨NB7, NB1⟩ := ne2_ BK0.out hg; replace BK0 := bb_ BK0.out hb; obtain ⟨NB13, NB18⟩ := ne2_ BK2.out hg; replace BK2 := bb_ BK2.out hb; obtain ⟨NB16, NB19⟩ := ne2_ BK3.out hg; replace BK3 := bb_ BK3.out hb; clear hb hg; have hnb5 := NB14.out; have hnc5 := NB10.out; have hnb6 := NB0.out; have hnc6 := NB6.out; have hnb7 := NB15.out; have hnc7 := NB12.out; have hnb8 := NB16.out; have hnc8 := NB19.out; obtain ⟨z16, z17, f16, f17⟩ := cz2_ BK3.out; have hnb9 := NB17.out; have hnc9 := NB11.out; have hnb10 := NB1.out; have hnc10 := NB7.out; have hnb11 := NB18.out; have hnc11 := NB13.out; obtain ⟨z18, z19, f18, f19⟩ := cz2_ BK4.out))
  have n0_ : Aside0 (((((w1.setCell ⟨gb0, 0, none⟩ (.int .i64 t0)).setCell ⟨gb0, 1, none⟩ (.int .i64 t1)).setCell ⟨gb1, 0, none⟩ (.int .i64 t2)).setCell ⟨gb1, 1, none⟩ (.int .i64 t3)).heap[gb3]? = some (.cells #[.int .i64 a1, .int .i64 a2] 100 (0, 0))) := ⟨blkU_ BK1.out⟩
  have n1_ : Aside0 (((((w1.setCell ⟨gb0, 0, none⟩ (.int .i64 t0)).setCell ⟨gb0, 1, none⟩ (.int .i64 t1)).setCell ⟨gb1, 0, none⟩ (.int .i64 t2)).setCell ⟨gb1, 1, none⟩ (.int .i64 t3)).heap[gb2]? = some (.cells #[.int .u64 0, .int .u64 0, .int .u64 0, .int .u64 0] 29 (0, 0))) := ⟨blkU_ BK0.out⟩
  have n2_ : Aside0 (((((w1.setCell ⟨gb0, 0, none⟩ (.int .i64 t0)).setCell ⟨gb0, 1, none⟩ (.int .i64 t1)).setCell ⟨gb1, 0, none⟩ (.int .i64 t2)).setCell ⟨gb1, 1, none⟩ (.int .i64 t3)).heap[gb4]? = some (.cells #[.int .u64 t4, .int .u64 t5, .int .u64 t6, .int .u64 t7] 29 (0, 0))) := ⟨blkU_ BK2.out⟩
  have n3_ : Aside0 (((((w1.setCell ⟨gb0, 0, none⟩ (.int .i64 t0)).setCell ⟨gb0, 1, none⟩ (.int .i64 t1)).setCell ⟨gb1, 0, none⟩ (.int .i64 t2)).setCell ⟨gb1, 1, none⟩ (.int .i64 t3)).heap[gb0]? = some (.cells #[.int .i64 t0, .int .i64 t1] 100 (0, 0))) := ⟨blkF_ BK3.out⟩
  have n4_ : Aside0 (((((w1.setCell ⟨gb0, 0, none⟩ (.int .i64 t0)).setCell ⟨gb0, 1, none⟩ (.int .i64 t1)).setCell ⟨gb1, 0, none⟩ (.int .i64 t2)).setCell ⟨gb1, 1, none⟩ (.int .i64 t3)).heap[gb1]? = some (.cells #[.int .i64 t2, .int .i64 t3] 100 (0, 0))) := ⟨blkF_ BK4.out⟩
  have n5_ : Aside0 (Below w.heap.size w ((((w1.setCell ⟨gb0, 0, none⟩ (.int .i64 t0)).setCell ⟨gb0, 1, none⟩ (.int .i64 t1)).setCell ⟨gb1, 0, none⟩ (.int .i64 t2)).setCell ⟨gb1, 1, none⟩ (.int .i64 t3))) := ⟨bel_⟩
  (try clear BK1); (try clear BK0); (try clear BK2); (try clear BK3); (try clear BK4); (try clear HB)
  generalize ((((w1.setCell ⟨gb0, 0, none⟩ (.int .i64 t0)).setCell ⟨gb0, 1, none⟩ (.int .i64 t1)).setCell ⟨gb1, 0, none⟩ (.int .i64 t2)).setCell ⟨gb1, 1, none⟩ (.int .i64 t3)) = w3 at n0_ n1_ n2_ n3_ n4_ n5_ ⊢
  have BK1 := n0_
  have BK0 := n1_
  have BK2 := n2_
  have BK3 := n3_
  have BK4 := n4_
  have HB := n5_
  clear n0_ n1_ n2_ n3_ n4_ n5_
  replace BK1 := a_ (blk_drew BK1.out)
  replace BK0 := a_ (blk_drew BK0.out)
  replace BK2 := a_ (blk_drew BK2.out)
  replace BK3 := a_ (blk_drew BK3.out)
  replace BK4 := a_ (blk_drew BK4.out)
  replace HB := a_ (below_drew1 HB.out)
  refine start_ (n := 8) (S := fun w' => w'.cell? ⟨gb0, 0, none⟩ = some (.int .i64 t0) ∧ w'.cell? ⟨gb0, 1, none⟩ = some (.int .i64 t1) ∧ w'.cell? ⟨gb1, 0, none⟩ = some (.int .i64 t2) ∧ w'.cell? ⟨gb1, 1, none⟩ = some (.int .i64 t3)) (ds := []) #[false, false, false, false, false, false, false, false] (by kernel_rfl) rfl rfl (hcc2_ BK3.out (hc2_ BK4.out)) (fun hHeld => ?_); refine with_tabW impl_digestBy.tab5 impl_digestBy.bits5 (fun HT HW_ => ?_)
  generalize w3.drew = w12 at BK1 BK0 BK2 BK3 BK4 HB hHeld ⊢
  refine qP_ 0 22 8 1 ?_
  refine qP_ 3 25 8 9 ?_
  refine qT_ 1 23 8 11 ?_
  refine qT_ 4 26 8 27 ?_
  refine oneP_ 2 (some 24) (b_ 8 31) HT (fun K hK => ?_)
  refine goN_ Try.func70 #[.map (some mb_), .agg #[.int .i64 t0, .int .i64 t1]] ?_
  with_reducible refine (ih k (by omega) a0 t0 t1 t8 t9 t10 t11 _ mb_ mn_ (IsM.below hI bel_) A2.out).mono ?_
  rintro e w13 ⟨rfl, hb⟩
  refine ⟨_, rfl, ?_⟩
  replace BK1 := bb_ BK1.out hb
  replace BK0 := bb_ BK0.out hb
  replace BK2 := bb_ BK2.out hb
  replace BK3 := bb_ BK3.out hb
  replace BK4 := bb_ BK4.out hb
  replace HB := s_ hb
  (try clear hb)
  refine hK.out _ _ (hcc2_ BK3.out (hc2_ BK4.out)) (fun hHeld => ?_)
  clear hK K
  refine normP_ (some 24) ?_
  refine oneP_ 5 (some 27) (b_ 8 63) HT (fun K hK => ?_)
  refine goN_ Try.func70 #[.map (some mb_), .agg #[.int .i64 t2, .int .i64 t3]] ?_
  with_reducible refine (ih k (by omega) a0 t2 t3 t12 t13 t14 t15 _ mb_ mn_ (IsM.below hI bel_) A3.out).mono ?_
  rintro e w14 ⟨rfl, hb⟩
  refine ⟨_, rfl, ?_⟩
  replace BK1 := bb_ BK1.out hb
  replace BK0 := bb_ BK0.out hb
  replace BK2 := bb_ BK2.out hb
  replace BK3 := bb_ BK3.out hb
  replace BK4 := bb_ BK4.out hb
  replace HB := s_ hb
  (try clear hb)
  refine hK.out _ _ (hcc2_ BK3.out (hc2_ BK4.out)) (fun hHeld => ?_)
  clear hK K
  refine normP_ (some 27) ?_
  refine oneP_ 6 (some 28) (b_ 8 127) HT (fun K hK => ?_)
  refine goN_ Try.func110 #[.agg #[.int .u64 t8, .int .u64 t9, .int .u64 t10, .int .u64 t11], .agg #[.int .u64 t12, .int .u64 t13, .int .u64 t14, .int .u64 t15]] ?_
  with_reducible refine (impl_HashPair.calls _ _ _ _ _ _ _ _ _ _ _ _ _ _ A4.out).mono ?_
  rintro e w2 ⟨rfl, hb⟩
  refine ⟨_, rfl, ?_⟩
  replace BK1 := bb_ BK1.out hb
  replace BK0 := bb_ BK0.out hb
  replace BK2 := bb_ BK2.out hb
  replace BK3 := bb_ BK3.out hb
  replace BK4 := bb_ BK4.out hb
  replace HB := s_ hb
  (try clear hb)
  refine hK.out _ _ (hcc2_ BK3.out (hc2_ BK4.out)) (fun hHeld => ?_)
  clear hK K
  refine normP_ (some 28) ?_
  refine oneP_ 7 none (b_ 8 255) HT (fun K hK => ?_)
  have hs0 : w2.cell? ⟨gb2, 0, none⟩ = some (.int .u64 0) := (blk_cell BK0.out 0).trans rfl
  have hfs46 := blk_frozen BK0.out 0
  have hns46_0 := NB2.out
  have hns46_2 := NB5.out
  have hns46_3 := NB0.out
  have hns46_4 := NB1.out
  have hms46_0 := NB3.out
  have hms46_2 := NB4.out
  have hms46_3 := NB6.out
  have hms46_4 := NB7.out
  have hs1 : w2.cell? ⟨gb2, 1, none⟩ = some (.int .u64 0) := (blk_cell BK0.out 1).trans rfl
  have hfs47 := blk_frozen BK0.out 1
  have hns47_0 := NB2.out
  have hns47_2 := NB5.out
  have hns47_3 := NB0.out
  have hns47_4 := NB1.out
  have hms47_0 := NB3.out
  have hms47_2 := NB4.out
  have hms47_3 := NB6.out
  have hms47_4 := NB7.out
  have hs2 : w2.cell? ⟨gb2, 2, none⟩ = some (.int .u64 0) := (blk_cell BK0.out 2).trans rfl
  have hfs48 := blk_frozen BK0.out 2
  have hns48_0 := NB2.out
  have hns48_2 := NB5.out
  have hns48_3 := NB0.out
  have hns48_4 := NB1.out
  have hms48_0 := NB3.out
  have hms48_2 := NB4.out
  have hms48_3 := NB6.out
  have hms48_4 := NB7.out
  have hs3 : w2.cell? ⟨gb2, 3, none⟩ = some (.int .u64 0) := (blk_cell BK0.out 3).trans rfl
  have hfs49 := blk_frozen BK0.out 3
  have hns49_0 := NB2.out
  have hns49_2 := NB5.out
  have hns49_3 := NB0.out
  have hns49_4 := NB1.out
  have hms49_0 := NB3.out
  have hms49_2 := NB4.out
  have hms49_3 := NB6.out
  have hms49_4 := NB7.out
  refine skip_ (w1 := ?_) (by rfl) rfl ?_ ?_
  rotate_left
  ·go_simp
   rfl
  refine hK.out _ _ ⟨((cell_far (p := ⟨gb2, _, none⟩) NB0.out _).trans (((cell_far (p := ⟨gb2, _, none⟩) NB0.out _).trans ((cf2_ NB0.out hHeld.1))))), ((cell_far (p := ⟨gb2, _, none⟩) NB0.out _).trans (((cell_far (p := ⟨gb2, _, none⟩) NB0.out _).trans ((cf2_ NB0.out hHeld.2.1))))), ((cell_far (p := ⟨gb2, _, none⟩) NB1.out _).trans (((cell_far (p := ⟨gb2, _, none⟩) NB1.out _).trans ((cf2_ NB1.out hHeld.2.2.1))))), ((cell_far (p := ⟨gb2, _, none⟩) NB1.out _).trans (((cell_far (p := ⟨gb2, _, none⟩) NB1.out _).trans ((cf2_ NB1.out hHeld.2.2.2)))))⟩ (fun hHeld => ?_)
  clear hK K
  refine done_ (done_of HT.out (by kernel_rfl)) ?_
  try go_wp2
  refine bodyPost_ret (results_cell_row rfl _ _ gb2 29 #[.int .u64 t17, .int .u64 t18, .int .u64 t19, .int .u64 t20] (0, 0) _ rfl (blkF_ BK0.out) Try.underlying29 rfl (by kernel_rfl)) rfl ?_
  exact ⟨rfl_, bel_⟩
end
section
def impl_known.l0 : Nat → List (S29) → MapD → List (S100) → Int → Int → Option (MapD)
 | 0, _, _, _, _, _ => none
 | k + 1, x1, x4, x2, x3, x0 => if x0 < x3 then (if 0 ≤ x0 then (if x0 < (x2.length : Int) then (if x0 < (x1.length : Int) then ((impl_putAt.f x4 ((rd_T100 x2 x0).f0) ((rd_T100 x2 x0).f1) ((rd_T29 x1 x0).f0) ((rd_T29 x1 x0).f1) ((rd_T29 x1 x0).f2) ((rd_T29 x1 x0).f3)).bind fun t0 => (impl_known.l0 k x1 t0 x2 x3 (wrap64 (x0 + 1)))) else (none)) else (none)) else (none)) else (some x4)
def impl_known.f (k : Nat) (a0 a1 : Int) (l2 : List (S29)) : Option (MapD) := (impl_growthNodes.f k a0 a1).bind fun bt0 => ((impl_makeAt.f).bind fun t0 => (if bt0.1.length + bt0.2.length < 8796093022208 then ((some (bt0.1 ++ bt0.2 : List (S100))).bind fun y0 => (impl_known.l0 k l2 t0 y0 (y0.length : Int) 0)) else (none)))
theorem impl_known.calls (k : Nat) (a0 a1 : Int) (A0 : Option Addr) (c2 : Nat) (l2 : List (S29)) (r : MapD) (w : World) (hr2 : Kd.C k29 w A0 l2.length l2) (hc2 : l2.length ≤ c2) (h : impl_known.f k a0 a1 l2 = some r) :
  Calls Try.prog 71 #[.int .i64 a0, .int .i64 a1, .slice A0 l2.length c2] w fun e w' => ∃ gm_ : Nat, e = .returned (.map (some gm_)) ∧ w.heap.size ≤ gm_ ∧ (∃ n_ : Nat, IsM w' gm_ n_ r) ∧ Below w.heap.size w w' := by
 have hu100 := Try.underlying100
 have hu29 := Try.underlying29
 have HR2 := a_ hr2
 have HC2 := a_ hc2
 clear hr2 hc2
 have HB := rB_ w
 have H := h
 unfold impl_known.f at H
 clear h
 obtain ⟨⟨t2, t0⟩, A2, H⟩ := bnd_ H
 dsimp only at H
 obtain ⟨t1, A3, H⟩ := bnd_ H
 obtain ⟨c6, H⟩ := ifn_ H
 have LMc0 := a_ c6
 clear c6
 obtain ⟨y0, hy0⟩ : ∃ y_ : List (S100), y_ = (t2 ++ t0) := ⟨_, rfl⟩
 replace H : (impl_known.l0 k l2 t1 y0 (y0.length : Int) 0) = some r := rpl_ hy0 H
 have Ny0 := a_ hy0
 clear hy0
 have H' := a_ H
 clear H
 go_enter Try.func71, Try.ntmps71
 go_wp2_with (first | (refine gcL_ 63 (some 15) Try.func63 #[.int .i64 a0, .int .i64 a1] ?_; (with_reducible refine (impl_growthNodes.calls _ _ _ _ _ _ A2.out).mono ?_); rintro e w5 ⟨v1, v2, rfl, ho0, ho1, hb⟩; refine ⟨_, rfl, ?_⟩; have HO1 := a_ (Kd.R_lower ho0 (below_size bel_)); have HO0 := a_ (Kd.R_lower ho1 (below_size bel_)); replace HB := s_ hb; clear hb; (try clear ho0); (try clear ho1)) | ((with_reducible refine gate_dst (N := 18) rfl ?_); refine goMake_ ?_; intro gm_ hgm_ w8 hm_ hb; have GM_ := sizeB_ hgm_; have HM := a_ hm_; clear hm_ hgm_; replace HO1 := rb_ HO1.out hb; have HN_ := a_ (R_map HO1.out HM.out).1; replace HO0 := rb_ HO0.out hb; replace HB := s_ hb; clear hb; obtain ⟨Ao0, co1, eo0⟩ := Kd.R_slice HO0.out; subst eo0) | ((with_reducible refine gate_builtin (b := .append) (xs := #[.tmp 19, .tmp 20]) rfl ?_); at_builtin; refine Kd.R_append_rows k100 (w0 := w) w.heap.size rfl (.tmp 19) (.tmp 20) 96 100 (.agg #[(.int .i64 0), (.int .i64 0)]) 16 rfl Try.underlying96 info100 rfl (by decide) (by omega) v1 t2 t0 _ _ _ (fun k_ => some k_ ≠ (.slice Ao0 t0.length co1 : Value).ownBlock) (fun _ => False) rfl rfl ?aO ?aR (fun _ _ h => h) (fun _ h => h.elim) ?aF ?aB ?aS ?aL ?_; (case aR => repeat (first | exact (Kd.R_reads' HO0.out).2.2 | (with_reducible refine Kd.C_alloc ?_ _) | (with_reducible refine Kd.C_drewN ?_ _) | (with_reducible refine Kd.C_drew ?_))); (case aB => exact bel_); (case aF => exact (fun k_ hk => Kd.fresh' (Kd.R_lt (kdU_ HO0.out)) k_ hk)); (case aO => exact (kdU_ HO1.out)); (case aS => exact (below_size bel_)); (case aL => have := LMc0.out; omega); intro v3 w6 ho hb hg hat; replace HM := a_ (IsM.grown (isU_ HM.out) hg (fun e_ => (HN_.out gm_ e_.symm).2 rfl)); rw [← Ny0.out] at ho; replace HO0 := a_ (Kd.R_after (ok := (fun _ => True)) (uR_ (Kd.R_mono HO0.out (fun _ hk => ⟨trivial, hk⟩))) hg hat); replace HB := a_ (hb); have HO2 := a_ (ho); clear HO1; clear ho hb hg hat; obtain ⟨Ao1, co0, eo1⟩ := Kd.R_slice HO2.out; subst eo1))
 go_loopg [23] k (fun kq v0 w' => ∃ (x1 : MapD) (x0 : Int), v0 = .int .i64 x0 ∧ Aside0 (impl_known.l0 kq l2 x1 y0 (y0.length : Int) x0 = some r) ∧ Aside0 (kq ≤ k) ∧ Aside0 (Kd.R k100 100 w' w.heap.size (fun _ => True) (.slice Ao1 y0.length co0) y0) ∧ Aside0 (IsM w' gm_ (x0).toNat x1) ∧ Aside0 (Below w.heap.size w w'))
 case atStart => exact ⟨(t1), (0), rl_, H', ⟨Nat.le_refl _⟩, ⟨uR_ (Kd.R_mono HO2.out (fun _ hk => trivial))⟩, ⟨by rw [show t1 = [] from (Option.some.inj A3.out).symm]; exact isU_ HM.out⟩, ⟨bel_⟩⟩
 case round =>
  clear H'
  (try clear c2); (try clear c6)
  obtain ⟨x1, x0, rfl, HA, HK1, HO_0, HM, HB⟩ := hrel
  cases gk with
  | zero => exact absurd HA.out (by simp [impl_known.l0])
  | succ k1 =>
   have H := HA.out
   clear HA
   simp only [impl_known.l0] at H
   by_cases c0 : x0 < (y0.length : Int)
   ·rw [if_pos c0] at H
    have c1 := decide_eq_true c0
    clear c0
    obtain ⟨c11, H⟩ := ifd_ H
    obtain ⟨c12, H⟩ := ifd_ H
    obtain ⟨c13, H⟩ := ifd_ H
    obtain ⟨t3, A1, H⟩ := bnd_ H
    have H' := a_ H
    clear H
    have p0 : 0 ≤ (x0 : Int) := ofd_
    have q0 : x0 < (y0.length : Int) := ofd_
    have HX_ := a_ (show (0 : Int) ≤ x0 ∧ x0 < (y0.length : Int) from ⟨p0, by assumption⟩)
    obtain ⟨ad1, e0, hx4, hx5⟩ := at_T100 (Kd.R_reads' HO_0.out).2.2 x0 p0 q0
    cases e0
    replace p0 := eq_true p0
    replace q0 := eq_true q0
    try go_wp2_with (first | (refine bx_ 11 #[.int .i64 0, .int .i64 0] 100 ?_; intro gb0 w1 hg hb BK0 GW0; replace HO_0 := a_ (Kd.R_below (Kd.R_elderB (kdU_ HO_0.out) gb0 (Nat.le_of_eq hg.symm)) hb); replace HM := a_ (IsM.below (isU_ HM.out) hb); replace HB := s_ hb; clear hb hg; obtain ⟨z0, z1, f0, f1⟩ := cz2_ BK0.out))
    have n9_ : Aside0 (IsM ((w1.setCell ⟨gb0, 0, none⟩ (.int .i64 ((rd_T100 y0 x0).f0))).setCell ⟨gb0, 1, none⟩ (.int .i64 ((rd_T100 y0 x0).f1))) gm_ (x0).toNat x1) := ⟨IsM.set (IsM.set HM.out (IsM.ne HM.out BK0.out) _) (IsM.ne HM.out BK0.out) _⟩
    have n0_ : Aside0 (Kd.R k100 100 ((w1.setCell ⟨gb0, 0, none⟩ (.int .i64 ((rd_T100 y0 x0).f0))).setCell ⟨gb0, 1, none⟩ (.int .i64 ((rd_T100 y0 x0).f1))) w.heap.size (fun k_ => k_ ≠ gb0) (.slice (some ad1) y0.length co0) y0) := ⟨uR_ (Kd.R_mono (Kd.R_far (p := ⟨gb0, 1, none⟩) (Kd.R_far (p := ⟨gb0, 0, none⟩) (Kd.R_mono HO_0.out (fun k_ hk => (⟨hk, hk.2⟩ : _ ∧ k_ ≠ gb0))) (fun _ hk => hk.2) (.int .i64 ((rd_T100 y0 x0).f0))) (fun _ hk => hk.2) (.int .i64 ((rd_T100 y0 x0).f1))) (fun _ hk => hk.1.2))⟩
    have n1_ : Aside0 (((w1.setCell ⟨gb0, 0, none⟩ (.int .i64 ((rd_T100 y0 x0).f0))).setCell ⟨gb0, 1, none⟩ (.int .i64 ((rd_T100 y0 x0).f1))).heap[gb0]? = some (.cells #[.int .i64 ((rd_T100 y0 x0).f0), .int .i64 ((rd_T100 y0 x0).f1)] 100 (0, 0))) := ⟨blkF_ BK0.out⟩
    have n2_ : Aside0 (Below w.heap.size w ((w1.setCell ⟨gb0, 0, none⟩ (.int .i64 ((rd_T100 y0 x0).f0))).setCell ⟨gb0, 1, none⟩ (.int .i64 ((rd_T100 y0 x0).f1)))) := ⟨bel_⟩
    (try clear HO_0); (try clear BK0); (try clear HB); (try clear HM)
    generalize ((w1.setCell ⟨gb0, 0, none⟩ (.int .i64 ((rd_T100 y0 x0).f0))).setCell ⟨gb0, 1, none⟩ (.int .i64 ((rd_T100 y0 x0).f1))) = w2 at n9_ n0_ n1_ n2_ ⊢
    have HO_0 := n0_
    have BK0 := n1_
    have HB := n2_
    have HM := n9_
    clear n0_ n1_ n2_ n9_
    replace HO_0 := a_ (Kd.R_drew HO_0.out)
    replace BK0 := a_ (blk_drew BK0.out)
    replace HB := a_ (below_drew1 HB.out)
    replace HM := a_ (IsM.drew HM.out)
    have p1 : 0 ≤ (x0 : Int) := ofd_
    have q1 : x0 < (l2.length : Int) := ofd_
    obtain ⟨ad0, e1, hx0, hx1, hx2, hx3⟩ := at_T29 HR2.out x0 p1 q1
    have hw3 := hx3
    have hw2 := hx2
    have hw1 := hx1
    have hw0 := hx0
    cases e1
    replace hx0 := pc_ HB.out hx0
    replace hx1 := pc_ HB.out hx1
    replace hx2 := pc_ HB.out hx2
    replace hx3 := pc_ HB.out hx3
    replace p1 := eq_true p1
    replace q1 := eq_true q1
    refine start_ (n := 7) (S := fun w' => w'.cell? ⟨gb0, 0, none⟩ = some (.int .i64 ((rd_T100 y0 x0).f0)) ∧ w'.cell? ⟨gb0, 1, none⟩ = some (.int .i64 ((rd_T100 y0 x0).f1)) ∧ w'.cell? (ad0.add ((x0).toNat * 4)) = some (.int .u64 ((rd_T29 l2 x0).f0)) ∧ w'.cell? ⟨(ad0.add ((x0).toNat * 4)).block, (ad0.add ((x0).toNat * 4)).off + 1, none⟩ = some (.int .u64 ((rd_T29 l2 x0).f1)) ∧ w'.cell? ⟨(ad0.add ((x0).toNat * 4)).block, (ad0.add ((x0).toNat * 4)).off + 2, none⟩ = some (.int .u64 ((rd_T29 l2 x0).f2)) ∧ w'.cell? ⟨(ad0.add ((x0).toNat * 4)).block, (ad0.add ((x0).toNat * 4)).off + 3, none⟩ = some (.int .u64 ((rd_T29 l2 x0).f3))) (ds := []) #[false, false, false, false, false, false, false] (by kernel_rfl) rfl rfl ⟨(blk_cell BK0.out 0).trans rfl, (blk_cell BK0.out 1).trans rfl, (pc_ HB.out hw0), (pc_ HB.out hw1), (pc_ HB.out hw2), (pc_ HB.out hw3)⟩ (fun hHeld => ?_)
    generalize w2.drew = w3 at HO_0 BK0 HB HM hx0 hx1 hx2 hx3 hHeld ⊢
    refine pure_ (i := 0) (N := some 28) (v := ?_) (a' := ?_) #[true, false, false, false, false, false, false] rfl rfl (by kernel_rfl) (fun _ _ _ h => h) (Or.inl ⟨by rfl, ?_⟩) ?_ ?_
    rotate_left
    ·intro w'
     go_simp
     with_reducible rfl
    rotate_left
    ·simp only [Act.put, List.setIfInBounds_toArray, List.set_cons_zero, List.set_cons_succ, i64_w, i32_w]
     rfl
    refine pure_ (i := 2) (N := some 30) (v := ?_) (a' := ?_) #[true, false, true, false, false, false, false] rfl rfl (by kernel_rfl) (fun _ _ _ h => h) (Or.inl ⟨by rfl, ?_⟩) ?_ ?_
    rotate_left
    ·intro w'
     go_simp
     with_reducible rfl
    rotate_left
    ·simp only [Act.put, List.setIfInBounds_toArray, List.set_cons_zero, List.set_cons_succ, i64_w, i32_w]
     rfl
    refine pure_ (i := 3) (N := some 31) (v := ?_) (a' := ?_) #[true, false, true, true, false, false, false] rfl rfl (by kernel_rfl) (fun _ _ _ h => h) (Or.inl ⟨by rfl, ?_⟩) ?_ ?_
    rotate_left
    ·intro w'
     go_simp
     with_reducible rfl
    rotate_left
    ·simp only [Act.put, List.setIfInBounds_toArray, List.set_cons_zero, List.set_cons_succ, i64_w, i32_w]
     rfl
    refine pure_ (i := 4) (N := some 32) (v := ?_) (a' := ?_) #[true, false, true, true, true, false, false] rfl rfl (by kernel_rfl) (fun _ _ _ h => h) (Or.inl ⟨by rfl, ?_⟩) ?_ ?_
    rotate_left
    ·intro w'
     go_simp
     with_reducible rfl
    rotate_left
    ·simp only [Act.put, List.setIfInBounds_toArray, List.set_cons_zero, List.set_cons_succ, i64_w, i32_w]
     rfl
    refine take_ (i := 1) (N := some 29) (v := ?_) (a' := ?_) #[true, true, true, true, true, false, false] rfl rfl (by kernel_rfl) (fun _ _ _ h => h) (Or.inl ⟨by rfl, ?_⟩) hHeld ?_ ?_
    rotate_left
    ·rintro w' ⟨s0, s1, s2, s3, s4, s5⟩
     go_simp
     with_reducible rfl
    rotate_left
    ·simp only [Act.put, List.setIfInBounds_toArray, List.set_cons_zero, List.set_cons_succ, i64_w, i32_w]
     rfl
    refine take_ (i := 5) (N := some 33) (v := ?_) (a' := ?_) #[true, true, true, true, true, true, false] rfl rfl (by kernel_rfl) (fun _ _ _ h => h) (Or.inl ⟨by rfl, ?_⟩) hHeld ?_ ?_
    rotate_left
    ·rintro w' ⟨s0, s1, s2, s3, s4, s5⟩
     go_simp
     with_reducible rfl
    rotate_left
    ·simp only [Act.put, List.setIfInBounds_toArray, List.set_cons_zero, List.set_cons_succ, i64_w, i32_w]
     rfl
    refine one_ (i := 6) (N := none) #[true, true, true, true, true, true, true] rfl rfl (by kernel_rfl) (by decide) (fun K hK => ?_)
    have HL_ : y0.length < 8796093022208 := by rw [Ny0.out, List.length_append]; exact LMc0.out
    refine goPut_ rfl HM.out A1.out (by have := HX_.out; unfold maxLen; omega) ?_
    intro w4 hm_ hg_
    replace HO_0 := a_ (R_grownM HO_0.out HM.out hg_)
    replace HB := a_ (HB.out.grown hg_ HB.out.size (fun j_ hj_ => by cases hj_; exact GM_.out))
    replace BK0 := a_ (blk_grown BK0.out hg_ (fun e_ => IsM.ne HM.out BK0.out (Option.some.inj e_).symm))
    replace HM := a_ hm_
    clear hm_ hg_
    refine hK.out _ _ ⟨(blk_cell BK0.out 0).trans rfl, (blk_cell BK0.out 1).trans rfl, (pc_ HB.out hw0), (pc_ HB.out hw1), (pc_ HB.out hw2), (pc_ HB.out hw3)⟩ (fun hHeld => ?_)
    clear hK K
    refine normP_ none ?_
    refine done_ (by kernel_rfl) ?_
    try go_wp2
    go_roundg k1
    case measure => have := HK1.out; omega
    case rel => exact ⟨(t3), (wrap64 (x0 + 1)), rl_, H', ⟨by have := HK1.out; omega⟩, ⟨uR_ (Kd.R_mono HO_0.out (fun _ hk => trivial))⟩, ⟨by rw [show (wrap64 (x0 + 1)).toNat = (x0).toNat + 1 by (have := HX_.out; unfold wrap64; omega)]; exact isU_ HM.out⟩, ⟨bel_⟩⟩
   ·rw [if_neg c0] at H
    have c1 := decide_eq_false c0
    clear c0
    obtain rfl := Option.some.inj H
    go_wp2
    go_ret
    exact ⟨gm_, rfl_, GM_.out, ⟨_, isU_ HM.out⟩, bel_⟩
end
section
def laws_toPoint.f (a0 a1 a2 a3 a4 : Int) : Option (Int × Int × Int × Int × Int) := (laws_toDigest.f a1 a2 a3 a4).bind fun bt0 => (some (a0, bt0.1, bt0.2.1, bt0.2.2.1, bt0.2.2.2))
theorem laws_toPoint.calls (a0 a1 a2 a3 a4 r0 r1 r2 r3 r4 : Int) (w : World) (h : laws_toPoint.f a0 a1 a2 a3 a4 = some (r0, r1, r2, r3, r4)) :
  Calls Try.prog 12 #[.agg #[.int .i64 a0, .int .u64 a1, .int .u64 a2, .int .u64 a3, .int .u64 a4]] w fun e w' => e = .returned (.agg #[.int .i64 r0, .int .u64 r1, .int .u64 r2, .int .u64 r3, .int .u64 r4]) ∧ Below w.heap.size w w' := by
 have hu26 := Try.underlying26
 have hu31 := Try.underlying31
 have hu24 := Try.underlying24
 have hu29 := Try.underlying29
 have HB := rB_ w
 have H := h
 unfold laws_toPoint.f at H
 clear h
 obtain ⟨⟨t0, t1, t2, t3⟩, A0, H⟩ := bnd_ H
 dsimp only at H
 simp only [Option.some.injEq, Prod.mk.injEq] at H
 obtain ⟨rfl, rfl, rfl, rfl, rfl⟩ := H
 go_enter Try.func12, Try.ntmps12
 go_wp2_with (first | (refine bx_ 1 #[.int .i64 a0, .int .u64 a1, .int .u64 a2, .int .u64 a3, .int .u64 a4] 26 ?_; intro gb1 w2 hg hb BK0 GW0; replace HB := s_ hb; clear hb hg) | (refine bx_ 2 #[.int .i64 0, .int .u64 0, .int .u64 0, .int .u64 0, .int .u64 0] 31 ?_; intro gb0 w3 hg hb BK1 GW1; replace HB := s_ hb; obtain ⟨NB0, NB2⟩ := ne2_ BK0.out hg; replace BK0 := bb_ BK0.out hb; clear hb hg) | (refine bx_ 3 #[.int .i64 0, .int .u64 0, .int .u64 0, .int .u64 0, .int .u64 0] 31 ?_; intro gb2 w4 hg hb BK2 GW2; replace HB := s_ hb; obtain ⟨NB1, NB4⟩ := ne2_ BK0.out hg; replace BK0 := bb_ BK0.out hb; obtain ⟨NB3, NB5⟩ := ne2_ BK1.out hg; replace BK1 := bb_ BK1.out hb; clear hb hg; have hnb0 := NB0.out; have hnc0 := NB2.out; have hnb1 := NB1.out; have hnc1 := NB4.out; obtain ⟨z15, z16, z17, z18, z19, f15, f16, f17, f18, f19⟩ := cz5_ BK0.out; have hnb2 := NB5.out; have hnc2 := NB3.out; obtain ⟨z0, z1, z2, z3, z4, f0, f1, f2, f3, f4⟩ := cz5_ BK2.out) | (refine gcB_ 44 9 Try.func44 (laws_toDigest.calls _ _ _ _ _ _ _ _ _ A0.out) ?_; intro w1 hb; replace BK0 := bb_ BK0.out hb; replace BK1 := bb_ BK1.out hb; replace BK2 := blkPB_ (cs := #[.int .i64 a0, .int .u64 0, .int .u64 0, .int .u64 0, .int .u64 0]) BK2.out hb; replace HB := s_ hb; clear hb; obtain ⟨z5, z6, z7, z8, z9, f5, f6, f7, f8, f9⟩ := cz5_ BK2.out; obtain ⟨z10, z11, z12, z13, z14, f10, f11, f12, f13, f14⟩ := cz5_ BK1.out))
 refine bodyPost_ret (results_cell_row rfl _ _ gb0 31 #[.int .i64 a0, .int .u64 t0, .int .u64 t1, .int .u64 t2, .int .u64 t3] (0, 0) _ rfl (blkF_ BK1.out) Try.underlying31 rfl (by kernel_rfl)) rfl ?_
 exact ⟨rfl_, bel_⟩
end
section
def laws_eqPoint.f (a0 a1 a2 a3 a4 a5 a6 a7 a8 a9 : Int) : Option (Bool) := if a0 = a5 then ((laws_eqDigest.f a1 a2 a3 a4 a6 a7 a8 a9).bind fun t0 => (if t0 = true then (some true) else (some false))) else (some false)
theorem laws_eqPoint.calls (a0 a2 a3 a4 a5 a1 a6 a7 a8 a9 : Int) (r : Bool) (w : World) (h : laws_eqPoint.f a0 a2 a3 a4 a5 a1 a6 a7 a8 a9 = some r) :
  Calls Try.prog 15 #[.agg #[.int .i64 a0, .int .u64 a2, .int .u64 a3, .int .u64 a4, .int .u64 a5], .agg #[.int .i64 a1, .int .u64 a6, .int .u64 a7, .int .u64 a8, .int .u64 a9]] w fun e w' => e = .returned (.bool r) ∧ Below w.heap.size w w' := by
 have hu31 := Try.underlying31
 have hu29 := Try.underlying29
 have HB := rB_ w
 have H := h
 unfold laws_eqPoint.f at H
 clear h
 by_cases c3 : a0 = a1
 ·rw [if_pos c3] at H
  have c0 := beq_iff_eq.mpr c3
  have c1 := bne_eq_false_iff_eq.mpr c3
  clear c3
  obtain ⟨t0, A0, H⟩ := bnd_ H
  by_cases c5 : t0 = true
  ·subst c5
   rw [if_pos rfl] at H
   obtain rfl := Option.some.inj H
   go_enter Try.func15, Try.ntmps15
   go_wp2_with (first | (refine bx_ 2 #[.int .i64 a0, .int .u64 a2, .int .u64 a3, .int .u64 a4, .int .u64 a5] 31 ?_; intro gb0 w7 hg hb BK0 GW0; replace HB := s_ hb; clear hb hg) | (refine bx_ 3 #[.int .i64 a1, .int .u64 a6, .int .u64 a7, .int .u64 a8, .int .u64 a9] 31 ?_; intro gb1 w9 hg hb BK1 GW1; replace HB := s_ hb; obtain ⟨NB0, NB1⟩ := ne2_ BK0.out hg; replace BK0 := bb_ BK0.out hb; clear hb hg; have hnb2 := NB0.out; have hnc2 := NB1.out; obtain ⟨z27, z28, z30, z32, z33, f25, f26, f27, f28, f29⟩ := cz5_ BK0.out; obtain ⟨z0, z1, z2, z3, z4, f0, f1, f2, f3, f4⟩ := cz5_ BK1.out) | (refine gcB_ 45 14 Try.func45 (laws_eqDigest.calls _ _ _ _ _ _ _ _ _ _ A0.out) ?_; intro w1 hb; replace BK0 := bb_ BK0.out hb; replace BK1 := bb_ BK1.out hb; replace HB := s_ hb; clear hb))
   go_ret
   exact ⟨rfl_, bel_⟩
  ·replace c5 := Bool.eq_false_iff.mpr c5
   subst c5
   rw [if_neg (show ¬ (false = true) by decide)] at H
   obtain rfl := Option.some.inj H
   go_enter Try.func15, Try.ntmps15
   go_wp2_with (first | (refine bx_ 2 #[.int .i64 a0, .int .u64 a2, .int .u64 a3, .int .u64 a4, .int .u64 a5] 31 ?_; intro gb0 w2 hg hb BK0 GW0; replace HB := s_ hb; clear hb hg) | (refine bx_ 3 #[.int .i64 a1, .int .u64 a6, .int .u64 a7, .int .u64 a8, .int .u64 a9] 31 ?_; intro gb1 w3 hg hb BK1 GW1; replace HB := s_ hb; obtain ⟨NB0, NB1⟩ := ne2_ BK0.out hg; replace BK0 := bb_ BK0.out hb; clear hb hg; have hnb0 := NB0.out; have hnc0 := NB1.out; obtain ⟨z5, z6, z7, z8, z9, f5, f6, f7, f8, f9⟩ := cz5_ BK0.out; obtain ⟨z10, z11, z12, z13, z14, f10, f11, f12, f13, f14⟩ := cz5_ BK1.out) | (refine gcB_ 45 14 Try.func45 (laws_eqDigest.calls _ _ _ _ _ _ _ _ _ _ A0.out) ?_; intro w4 hb; replace BK0 := bb_ BK0.out hb; replace BK1 := bb_ BK1.out hb; replace HB := s_ hb; clear hb))
   go_ret
   exact ⟨rfl_, bel_⟩
 ·rw [if_neg c3] at H
  have c0 := beq_eq_false_iff_ne.mpr c3
  have c1 := bne_iff_ne.mpr c3
  obtain rfl := Option.some.inj H
  go_enter Try.func15, Try.ntmps15
  go_wp2_with (first | (refine bx_ 2 #[.int .i64 a0, .int .u64 a2, .int .u64 a3, .int .u64 a4, .int .u64 a5] 31 ?_; intro gb0 w5 hg hb BK0 GW0; replace HB := s_ hb; clear hb hg) | (refine bx_ 3 #[.int .i64 a1, .int .u64 a6, .int .u64 a7, .int .u64 a8, .int .u64 a9] 31 ?_; intro gb1 w6 hg hb BK1 GW1; replace HB := s_ hb; obtain ⟨NB0, NB1⟩ := ne2_ BK0.out hg; replace BK0 := bb_ BK0.out hb; clear hb hg; have hnb1 := NB0.out; have hnc1 := NB1.out; obtain ⟨z15, z16, z17, z18, z19, f15, f16, f17, f18, f19⟩ := cz5_ BK0.out; obtain ⟨z20, z21, z22, z23, z25, f20, f21, f22, f23, f24⟩ := cz5_ BK1.out))
  go_ret
  exact ⟨rfl_, bel_⟩
end
section
def laws_eqGrowth.f (k : Nat) (a0 a1 a2 a3 a4 : Int) (l3 : List (S29)) (a5 a6 a7 a8 a9 : Int) (l4 : List (S29)) : Option (Bool) := (laws_eqPoint.f a0 a1 a2 a3 a4 a5 a6 a7 a8 a9).bind fun t0 => (if t0 = true then ((laws_eqDigestS.f k l3 l4).bind fun t1 => (if t1 = true then (some true) else (some false))) else (some false))
theorem laws_eqGrowth.calls (k : Nat) (a0 a1 a2 a3 a4 : Int) (A0 : Option Addr) (c0 : Nat) (l3 : List (S29)) (a5 a6 a7 a8 a9 : Int) (A1 : Option Addr) (c1 : Nat) (l4 : List (S29)) (r : Bool) (w : World) (hr0_5 : Kd.C k29 w A0 l3.length l3) (hc0_5 : l3.length ≤ c0) (hr1_5 : Kd.C k29 w A1 l4.length l4) (hc1_5 : l4.length ≤ c1) (h : laws_eqGrowth.f k a0 a1 a2 a3 a4 l3 a5 a6 a7 a8 a9 l4 = some r) :
  Calls Try.prog 24 #[.agg #[.int .i64 a0, .int .u64 a1, .int .u64 a2, .int .u64 a3, .int .u64 a4, .slice A0 l3.length c0], .agg #[.int .i64 a5, .int .u64 a6, .int .u64 a7, .int .u64 a8, .int .u64 a9, .slice A1 l4.length c1]] w fun e w' => e = .returned (.bool r) ∧ Below w.heap.size w w' := by
 have hu51 := Try.underlying51
 have hu31 := Try.underlying31
 have HR0_5 := a_ hr0_5
 have HC0_5 := a_ hc0_5
 clear hr0_5 hc0_5
 have HR1_5 := a_ hr1_5
 have HC1_5 := a_ hc1_5
 clear hr1_5 hc1_5
 have HB := rB_ w
 have H := h
 unfold laws_eqGrowth.f at H
 clear h
 obtain ⟨t0, A2, H⟩ := bnd_ H
 by_cases c4 : t0 = true
 ·subst c4
  rw [if_pos rfl] at H
  obtain ⟨t1, A3, H⟩ := bnd_ H
  by_cases c6 : t1 = true
  ·subst c6
   rw [if_pos rfl] at H
   obtain rfl := Option.some.inj H
   go_enter Try.func24, Try.ntmps24
   go_wp2_with (first | (refine bx_ 2 #[.int .i64 a0, .int .u64 a1, .int .u64 a2, .int .u64 a3, .int .u64 a4, .slice A0 l3.length c0] 51 ?_; intro gb0 w11 hg hb BK0 GW0; replace HB := s_ hb; clear hb hg) | (refine bx_ 3 #[.int .i64 a5, .int .u64 a6, .int .u64 a7, .int .u64 a8, .int .u64 a9, .slice A1 l4.length c1] 51 ?_; intro gb1 w8 hg hb BK1 GW1; replace HB := s_ hb; obtain ⟨NB0, NB1⟩ := ne2_ BK0.out hg; replace BK0 := bb_ BK0.out hb; clear hb hg; have hnb2 := NB0.out; have hnc2 := NB1.out; obtain ⟨z0, z1, z2, z3, z4, z5, f0, f1, f2, f3, f4, f5⟩ := cz6_ BK0.out; obtain ⟨z6, z7, z8, z9, z10, z11, f6, f7, f8, f9, f10, f11⟩ := cz6_ BK1.out) | (refine gcB_ 15 9 Try.func15 (laws_eqPoint.calls _ _ _ _ _ _ _ _ _ _ _ _ A2.out) ?_; intro w1 hb; replace BK0 := bb_ BK0.out hb; replace BK1 := bb_ BK1.out hb; replace HB := s_ hb; clear hb; obtain ⟨z12, z13, z14, z15, z16, z17, f12, f13, f14, f15, f16, f17⟩ := cz6_ BK0.out; obtain ⟨z18, z19, z20, z21, z22, z23, f18, f19, f20, f21, f22, f23⟩ := cz6_ BK1.out) | (refine gcB_ 25 15 Try.func25 (laws_eqDigestS.calls _ _ _ _ _ _ _ _ _ ?side1 ?side2 ?side3 ?side4 A3.out) ?_; (case side1 => exact cU_ (Kd.C_below HR0_5.out HB.out)); (case side2 => exact HC0_5.out); (case side3 => exact cU_ (Kd.C_below HR1_5.out HB.out)); (case side4 => exact HC1_5.out); intro w2 hb; replace BK0 := bb_ BK0.out hb; replace BK1 := bb_ BK1.out hb; replace HB := s_ hb; clear hb))
   go_ret
   exact ⟨rfl_, bel_⟩
  ·replace c6 := Bool.eq_false_iff.mpr c6
   subst c6
   rw [if_neg (show ¬ (false = true) by decide)] at H
   obtain rfl := Option.some.inj H
   go_enter Try.func24, Try.ntmps24
   go_wp2_with (first | (refine bx_ 2 #[.int .i64 a0, .int .u64 a1, .int .u64 a2, .int .u64 a3, .int .u64 a4, .slice A0 l3.length c0] 51 ?_; intro gb0 w3 hg hb BK0 GW0; replace HB := s_ hb; clear hb hg) | (refine bx_ 3 #[.int .i64 a5, .int .u64 a6, .int .u64 a7, .int .u64 a8, .int .u64 a9, .slice A1 l4.length c1] 51 ?_; intro gb1 w4 hg hb BK1 GW1; replace HB := s_ hb; obtain ⟨NB0, NB1⟩ := ne2_ BK0.out hg; replace BK0 := bb_ BK0.out hb; clear hb hg; have hnb0 := NB0.out; have hnc0 := NB1.out; obtain ⟨z25, z27, z28, z30, z32, z33, f24, f25, f26, f27, f28, f29⟩ := cz6_ BK0.out; obtain ⟨z34, z35, z36, z37, z38, z39, f30, f31, f32, f33, f34, f35⟩ := cz6_ BK1.out) | (refine gcB_ 15 9 Try.func15 (laws_eqPoint.calls _ _ _ _ _ _ _ _ _ _ _ _ A2.out) ?_; intro w5 hb; replace BK0 := bb_ BK0.out hb; replace BK1 := bb_ BK1.out hb; replace HB := s_ hb; clear hb; obtain ⟨z40, z41, z43, z44, z45, z46, f36, f37, f38, f39, f40, f41⟩ := cz6_ BK0.out; obtain ⟨z47, z48, z49, z50, z52, z53, f42, f43, f44, f45, f46, f47⟩ := cz6_ BK1.out) | (refine gcB_ 25 15 Try.func25 (laws_eqDigestS.calls _ _ _ _ _ _ _ _ _ ?side1 ?side2 ?side3 ?side4 A3.out) ?_; (case side1 => exact cU_ (Kd.C_below HR0_5.out HB.out)); (case side2 => exact HC0_5.out); (case side3 => exact cU_ (Kd.C_below HR1_5.out HB.out)); (case side4 => exact HC1_5.out); intro w6 hb; replace BK0 := bb_ BK0.out hb; replace BK1 := bb_ BK1.out hb; replace HB := s_ hb; clear hb))
   go_ret
   exact ⟨rfl_, bel_⟩
 ·replace c4 := Bool.eq_false_iff.mpr c4
  subst c4
  rw [if_neg (show ¬ (false = true) by decide)] at H
  obtain rfl := Option.some.inj H
  go_enter Try.func24, Try.ntmps24
  go_wp2_with (first | (refine bx_ 2 #[.int .i64 a0, .int .u64 a1, .int .u64 a2, .int .u64 a3, .int .u64 a4, .slice A0 l3.length c0] 51 ?_; intro gb0 w7 hg hb BK0 GW0; replace HB := s_ hb; clear hb hg) | (refine bx_ 3 #[.int .i64 a5, .int .u64 a6, .int .u64 a7, .int .u64 a8, .int .u64 a9, .slice A1 l4.length c1] 51 ?_; intro gb1 w9 hg hb BK1 GW1; replace HB := s_ hb; obtain ⟨NB0, NB1⟩ := ne2_ BK0.out hg; replace BK0 := bb_ BK0.out hb; clear hb hg; have hnb1 := NB0.out; have hnc1 := NB1.out; obtain ⟨z54, z55, z56, z57, z58, z59, f48, f49, f50, f51, f52, f53⟩ := cz6_ BK0.out; obtain ⟨z60, z61, z62, z63, z64, z65, f54, f55, f56, f57, f58, f59⟩ := cz6_ BK1.out) | (refine gcB_ 15 9 Try.func15 (laws_eqPoint.calls _ _ _ _ _ _ _ _ _ _ _ _ A2.out) ?_; intro w10 hb; replace BK0 := bb_ BK0.out hb; replace BK1 := bb_ BK1.out hb; replace HB := s_ hb; clear hb))
  go_ret
  exact ⟨rfl_, bel_⟩
end
section
def spec_l2Half.l0 : Nat → Int → Int → Option (Int)
 | 0, _, _ => none
 | k + 1, x1, x0 => if (wrap64 (2 * x0)) ≤ x1 then (spec_l2Half.l0 k x1 (wrap64 (2 * x0))) else (some x0)
def spec_l2Half.f (k : Nat) (a0 : Int) : Option (Int) := spec_l2Half.l0 k a0 1
theorem spec_l2Half.calls (k : Nat) (a0 r : Int) (w : World) (h : spec_l2Half.f k a0 = some r) :
  Calls Try.prog 93 #[.int .i64 a0] w fun e w' => e = .returned (.int .i64 r) ∧ Drawn0 w w' := by
 have H := h
 unfold spec_l2Half.f at H
 clear h
 have H' := a_ H
 clear H
 go_enter Try.func93, Try.ntmps93
 go_wp2
 go_loopg [3] k (fun kq v0 w' => ∃ (x0 : Int), v0 = .int .i64 x0 ∧ Aside0 (spec_l2Half.l0 kq a0 x0 = some r) ∧ Aside0 (kq ≤ k) ∧ Drawn0 w w')
 case atStart => exact ⟨(1), rl_, H', ⟨Nat.le_refl _⟩, by repeat (first | exact Drawn0.refl _ | apply Drawn0.step)⟩
 case round =>
  clear H'
  obtain ⟨x0, rfl, HA, HK1, ⟨m1, rfl⟩⟩ := hrel
  cases gk with
  | zero => exact absurd HA.out (by simp [spec_l2Half.l0])
  | succ k1 =>
   have H := HA.out
   clear HA
   simp only [spec_l2Half.l0] at H
   by_cases c2 : (wrap64 (2 * x0)) ≤ a0
   ·rw [if_pos c2] at H
    have c0 := decide_eq_true c2
    clear c2
    have H' := a_ H
    clear H
    go_wp2
    go_roundg k1
    case measure => have := HK1.out; omega
    case rel => exact ⟨(wrap64 (2 * x0)), rl_, H', ⟨by have := HK1.out; omega⟩, by repeat (first | exact Drawn0.refl _ | apply Drawn0.step)⟩
   ·rw [if_neg c2] at H
    have c0 := decide_eq_false c2
    clear c2
    obtain rfl := Option.some.inj H
    go_wp2
    go_ret
    exact ⟨rl_, dr_⟩
end
end
end Go.Proofs.Ytflckegggopdnaa.B
