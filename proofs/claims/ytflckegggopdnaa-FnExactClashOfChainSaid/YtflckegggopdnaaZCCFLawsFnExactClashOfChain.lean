/- What the Go functions of these names do; condition: .f gives an answer. -/
import Derived.Test.YtflckegggopdnaaZCCP0
import Derived.Test.YtflckegggopdnaaZCCP2
import Derived.Test.YtflckegggopdnaaZCCP15
import Derived.Test.YtflckegggopdnaaZCCP3
import Derived.Test.YtflckegggopdnaaZCCP12
import Derived.Test.YtflckegggopdnaaZCCP6
import Derived.Test.YtflckegggopdnaaZCCP17
import Derived.Test.YtflckegggopdnaaZCCFSpecClashOfChain
import Derived.Test.YtflckegggopdnaaZCCGLawD1
import Derived.Test.YtflckegggopdnaaZCCP5
set_option linter.unusedVariables false
set_option maxHeartbeats 8000000
set_option maxRecDepth 100000
set_option linter.unusedSimpArgs false
namespace Go.Proofs.Ytflckegggopdnaa.B
open Go.RowKit Go.Proofs.YtflckegggopdnaaW
section
def laws_FnExactClashOfChain.j0 : Nat → List (S42) → List (S24) → List (S24) → List (S51) → List (S29) → List (S29) → Bool → Option (Bool)
 | 0, _, _, _, _, _, _, _ => none
 | k + 1, x0, x4, x5, x1, x2, x3, x6 => if x6 = true then (some false) else ((laws_toGrowthS.f k x0).bind fun t0 => ((laws_eqGrowthS.f k x1 t0).bind fun t1 => (if t1 = true then ((laws_toDigestS.f k x4).bind fun t2 => ((laws_eqDigestS.f k x2 t2).bind fun t3 => (if t3 = true then ((laws_toDigestS.f k x5).bind fun t4 => ((laws_eqDigestS.f k x3 t4).bind fun t5 => (if t5 = true then (some true) else (some false)))) else (some false)))) else (some false))))
def laws_FnExactClashOfChain.f (k : Nat) (a2 a3 a4 a5 a6 : Int) (l1 : List (S42)) (a7 : Int) (a0 : ByteArray) (l3 : List (S24)) (a1 : ByteArray) (l4 : List (S24)) : Option (Bool) := if (a0.size : Int) > 1048576 then (some true) else (if (a1.size : Int) > 1048576 then (some true) else ((laws_szGrowthS.f k l1 1048576).bind fun t3 => (if t3 < 0 then (some true) else ((laws_szDigestS.f l3 t3).bind fun t4 => (if t4 < 0 then (some true) else ((laws_szDigestS.f l4 t4).bind fun t5 => (if t5 < 0 then (some true) else ((laws_toPoint.f a2 a3 a4 a5 a6).bind fun bt0 => ((laws_toGrowthS.f k l1).bind fun t6 => ((laws_toDigestS.f k l3).bind fun t7 => ((laws_toDigestS.f k l4).bind fun t8 => ((spec_ClashOfChain.f k bt0.1 bt0.2.1 bt0.2.2.1 bt0.2.2.2.1 bt0.2.2.2.2 t6 a7 a0 t7 a1 t8).bind fun bt2 => ((laws_toGrowthS.f k l1).bind fun t0 => ((laws_toDigestS.f k l3).bind fun t1 => ((laws_toDigestS.f k l4).bind fun t2 => ((laws_toPoint.f a2 a3 a4 a5 a6).bind fun bt1 => ((impl_ClashOfChain.f k bt1.1 bt1.2.1 bt1.2.2.1 bt1.2.2.2.1 bt1.2.2.2.2 t0 a7 a0 t1 a1 t2).bind fun bt3 => ((laws_eqClash.f bt3.1 bt3.2.1 bt2.1 bt2.2.1).bind fun t9 => (if t9 = true then (laws_FnExactClashOfChain.j0 k l1 l3 l4 t0 t1 t2 (bt3.2.2 != bt2.2.2)) else (laws_FnExactClashOfChain.j0 k l1 l3 l4 t0 t1 t2 true))))))))))))))))))))
theorem laws_FnExactClashOfChain.calls (k : Nat) (a0 a1 a2 a3 a4 : Int) (A0 : Option Addr) (c12 : Nat) (l1 : List (S42)) (a7 : Int) (a5 : ByteArray) (A1 : Option Addr) (c4 : Nat) (l3 : List (S24)) (a6 : ByteArray) (A2 : Option Addr) (c6 : Nat) (l4 : List (S24)) (r : Bool) (hr_ : r = true) (w : World) (hr1 : Kd.C k42 w A0 l1.length l1) (hc1 : l1.length ≤ c12) (hr4 : Kd.C k24 w A1 l3.length l3) (hc4 : l3.length ≤ c4) (hr6 : Kd.C k24 w A2 l4.length l4) (hc6 : l4.length ≤ c6) (h : laws_FnExactClashOfChain.f k a0 a1 a2 a3 a4 l1 a7 a5 l3 a6 l4 = some r) :
  Calls Try.prog 5 #[.agg #[.int .i64 a0, .int .u64 a1, .int .u64 a2, .int .u64 a3, .int .u64 a4], .slice A0 l1.length c12, .int .i64 a7, .string a5, .slice A1 l3.length c4, .string a6, .slice A2 l4.length c6] w fun e w' => e = .returned (.bool r) ∧ Below w.heap.size w w' := by
 have hu26 := Try.underlying26
 have hu46 := Try.underlying46
 have HR1 := a_ hr1
 have HC1 := a_ hc1
 clear hr1 hc1
 have HR4 := a_ hr4
 have HC4 := a_ hc4
 clear hr4 hc4
 have HR6 := a_ hr6
 have HC6 := a_ hc6
 clear hr6 hc6
 have HB := rB_ w
 have H := h
 unfold laws_FnExactClashOfChain.f at H
 clear h
 by_cases c8 : (a5.size : Int) > 1048576
 ·rw [if_pos c8] at H
  have c23 : decide (1048576 < (a5.size : Int)) = true := decide_eq_true c8
  have c24 : decide (1048576 < a5.size) = true := decide_eq_true (by omega)
  clear c8
  obtain rfl := Option.some.inj H
  go_enter Try.func5, Try.ntmps5
  go_wp2_with (first | (refine bx_ 7 #[.int .i64 a0, .int .u64 a1, .int .u64 a2, .int .u64 a3, .int .u64 a4] 26 ?_; intro gb2 w28 hg hb BK0 GW0; replace HB := s_ hb; clear hb hg))
  go_ret
  exact ⟨rfl_, bel_⟩
 ·rw [if_neg c8] at H
  have c23 : decide (1048576 < (a5.size : Int)) = false := decide_eq_false c8
  have c24 : decide (1048576 < a5.size) = false := decide_eq_false (by omega)
  clear c8
  by_cases c10 : (a6.size : Int) > 1048576
  ·rw [if_pos c10] at H
   have c18 : decide (1048576 < (a6.size : Int)) = true := decide_eq_true c10
   have c19 : decide (1048576 < a6.size) = true := decide_eq_true (by omega)
   clear c10
   obtain rfl := Option.some.inj H
   go_enter Try.func5, Try.ntmps5
   go_wp2_with (first | (refine bx_ 7 #[.int .i64 a0, .int .u64 a1, .int .u64 a2, .int .u64 a3, .int .u64 a4] 26 ?_; intro gb2 w2 hg hb BK0 GW0; replace HB := s_ hb; clear hb hg))
   go_ret
   exact ⟨rfl_, bel_⟩
  ·rw [if_neg c10] at H
   have c18 : decide (1048576 < (a6.size : Int)) = false := decide_eq_false c10
   have c19 : decide (1048576 < a6.size) = false := decide_eq_false (by omega)
   clear c10
   obtain ⟨t7, A3, H⟩ := bnd_ H
   by_cases c0 : t7 < 0
   ·rw [if_pos c0] at H
    have c20 := decide_eq_true c0
    clear c0
    obtain rfl := Option.some.inj H
    go_enter Try.func5, Try.ntmps5
    go_wp2_with (first | (refine bx_ 7 #[.int .i64 a0, .int .u64 a1, .int .u64 a2, .int .u64 a3, .int .u64 a4] 26 ?_; intro gb2 w3 hg hb BK0 GW0; replace HB := s_ hb; clear hb hg) | (refine gcB_ 10 31 Try.func10 (laws_szGrowthS.calls _ _ _ _ _ _ _ ?side1 ?side2 A3.out) ?_; (case side1 => exact cU_ (Kd.C_below HR1.out HB.out)); (case side2 => exact HC1.out); intro w4 hb; replace BK0 := bb_ BK0.out hb; replace HB := s_ hb; clear hb))
    go_ret
    exact ⟨rfl_, bel_⟩
   ·rw [if_neg c0] at H
    have c20 := decide_eq_false c0
    clear c0
    obtain ⟨t8, A4, H⟩ := bnd_ H
    by_cases c1 : t8 < 0
    ·rw [if_pos c1] at H
     have c21 := decide_eq_true c1
     clear c1
     obtain rfl := Option.some.inj H
     go_enter Try.func5, Try.ntmps5
     go_wp2_with (first | (refine bx_ 7 #[.int .i64 a0, .int .u64 a1, .int .u64 a2, .int .u64 a3, .int .u64 a4] 26 ?_; intro gb2 w5 hg hb BK0 GW0; replace HB := s_ hb; clear hb hg) | (refine gcB_ 10 31 Try.func10 (laws_szGrowthS.calls _ _ _ _ _ _ _ ?side1 ?side2 A3.out) ?_; (case side1 => exact cU_ (Kd.C_below HR1.out HB.out)); (case side2 => exact HC1.out); intro w6 hb; replace BK0 := bb_ BK0.out hb; replace HB := s_ hb; clear hb) | (refine gcD_ 18 36 Try.func18 (laws_szDigestS.calls _ _ _ _ _ _ ?side1 ?side2 A4.out) ?_; (case side1 => exact cU_ (Kd.C_below HR4.out HB.out)); (case side2 => exact HC4.out); intro nd))
     go_ret
     exact ⟨rfl_, bel_⟩
    ·rw [if_neg c1] at H
     have c21 := decide_eq_false c1
     clear c1
     obtain ⟨t9, A5, H⟩ := bnd_ H
     by_cases c11 : t9 < 0
     ·rw [if_pos c11] at H
      have c22 := decide_eq_true c11
      clear c11
      obtain rfl := Option.some.inj H
      go_enter Try.func5, Try.ntmps5
      go_wp2_with (first | (refine bx_ 7 #[.int .i64 a0, .int .u64 a1, .int .u64 a2, .int .u64 a3, .int .u64 a4] 26 ?_; intro gb2 w7 hg hb BK0 GW0; replace HB := s_ hb; clear hb hg) | (refine gcB_ 10 31 Try.func10 (laws_szGrowthS.calls _ _ _ _ _ _ _ ?side1 ?side2 A3.out) ?_; (case side1 => exact cU_ (Kd.C_below HR1.out HB.out)); (case side2 => exact HC1.out); intro w9 hb; replace BK0 := bb_ BK0.out hb; replace HB := s_ hb; clear hb) | (refine gcD_ 18 36 Try.func18 (laws_szDigestS.calls _ _ _ _ _ _ ?side1 ?side2 A4.out) ?_; (case side1 => exact cU_ (Kd.C_below HR4.out HB.out)); (case side2 => exact HC4.out); intro nd) | (refine gcD_ 18 41 Try.func18 (laws_szDigestS.calls _ _ _ _ _ _ ?side1 ?side2 A5.out) ?_; (case side1 => exact cU_ (Kd.C_below HR6.out bel_)); (case side2 => exact HC6.out); intro nd))
      go_ret
      exact ⟨rfl_, bel_⟩
     ·rw [if_neg c11] at H
      have c22 := decide_eq_false c11
      clear c11
      obtain ⟨⟨t17, t18, t19, t20, t21⟩, A7, H⟩ := bnd_ H
      dsimp only at H
      obtain ⟨t22, A8, H⟩ := bnd_ H
      obtain ⟨t10, A9, H⟩ := bnd_ H
      obtain ⟨t23, A10, H⟩ := bnd_ H
      obtain ⟨⟨t2, t3, t11⟩, A11, H⟩ := bnd_ H
      dsimp only at H
      obtain ⟨t6, A12, H⟩ := bnd_ H
      obtain ⟨t4, A13, H⟩ := bnd_ H
      obtain ⟨t5, A14, H⟩ := bnd_ H
      obtain ⟨⟨t24, t25, t26, t27, t28⟩, A15, H⟩ := bnd_ H
      dsimp only at H
      obtain ⟨⟨t0, t1, t12⟩, A16, H⟩ := bnd_ H
      dsimp only at H
      have HC34 := a_ H
      clear H
      go_enter Try.func5, Try.ntmps5
      go_upto_region 20 with (first | ((with_reducible refine gate_dst (N := 7) rfl ?_); refine boxE_ (cs := #[.int .i64 a0, .int .u64 a1, .int .u64 a2, .int .u64 a3, .int .u64 a4]) (t := 26) ?_; intro gb2 hg w10 hbox hb; have BK0 := a_ (hbox); have GW0 := sizeB_ hg; replace HB := s_ hb; clear hb hbox hg) | (refine gcB_ 10 31 Try.func10 (laws_szGrowthS.calls _ _ _ _ _ _ _ ?side1 ?side2 A3.out) ?_; (case side1 => exact cU_ (Kd.C_below HR1.out HB.out)); (case side2 => exact HC1.out); intro w1 hb; replace BK0 := bb_ BK0.out hb; replace HB := s_ hb; clear hb) | (refine gcD_ 18 36 Try.func18 (laws_szDigestS.calls _ _ _ _ _ _ ?side1 ?side2 A4.out) ?_; (case side1 => exact cU_ (Kd.C_below HR4.out HB.out)); (case side2 => exact HC4.out); intro nd; (try (rw [drewN_self w1]; generalize hq_ : World.drewN w1 _ = w1; have n0_ : Aside0 (w1.heap[gb2]? = some (.cells #[.int .i64 a0, .int .u64 a1, .int .u64 a2, .int .u64 a3, .int .u64 a4] 26 (0, 0))) := ⟨by rw [← hq_]; exact (blkU_ BK0.out)⟩; have n1_ : Aside0 (Below w.heap.size w w1) := ⟨by rw [← hq_]; exact bel_⟩; clear BK0 HB hq_; have BK0 := n0_; have HB := n1_; clear n0_ n1_))) | (refine gcD_ 18 41 Try.func18 (laws_szDigestS.calls _ _ _ _ _ _ ?side1 ?side2 A5.out) ?_; (case side1 => exact cU_ (Kd.C_below HR6.out HB.out)); (case side2 => exact HC6.out); intro nd; (try (rw [drewN_self w1]; generalize hq_ : World.drewN w1 _ = w1; have n0_ : Aside0 (w1.heap[gb2]? = some (.cells #[.int .i64 a0, .int .u64 a1, .int .u64 a2, .int .u64 a3, .int .u64 a4] 26 (0, 0))) := ⟨by rw [← hq_]; exact (blkU_ BK0.out)⟩; have n1_ : Aside0 (Below w.heap.size w w1) := ⟨by rw [← hq_]; exact bel_⟩; clear BK0 HB hq_; have BK0 := n0_; have HB := n1_; clear n0_ n1_)); obtain ⟨z0, z1, z2, z3, z4, f0, f1, f2, f3, f4⟩ := cz5_ BK0.out) | (refine gcB_ 12 46 Try.func12 (laws_toPoint.calls _ _ _ _ _ _ _ _ _ _ _ A7.out) ?_; intro w11 hb; replace BK0 := bb_ BK0.out hb; replace HB := s_ hb; clear hb) | (refine gcL_ 13 (some 48) Try.func13 #[.slice A0 l1.length c12] ?_; (with_reducible refine (laws_toGrowthS.calls _ _ _ _ _ _ ?side1 ?side2 A8.out).mono ?_); (case side1 => exact cU_ (Kd.C_below HR1.out HB.out)); (case side2 => exact HC1.out); rintro e w12 ⟨v1, rfl, ho0, hb⟩; refine ⟨_, rfl, ?_⟩; have HO0 := a_ (Kd.S_lower ho0 (below_size bel_)); replace BK0 := bb_ BK0.out hb; replace HB := s_ hb; clear hb; (try clear ho0)) | (refine gcL_ 21 (some 52) Try.func21 #[.slice A1 l3.length c4] ?_; (with_reducible refine (laws_toDigestS.calls _ _ _ _ _ _ ?side1 ?side2 A9.out).mono ?_); (case side1 => exact cU_ (Kd.C_below HR4.out HB.out)); (case side2 => exact HC4.out); rintro e w13 ⟨v2, rfl, ho0, hb⟩; refine ⟨_, rfl, ?_⟩; replace HO0 := a_ (Kd.S_elder' (uS_ HO0.out) (Kd.R_base ho0) hb); have HO1 := a_ (Kd.R_lower ho0 (below_size bel_)); replace BK0 := bb_ BK0.out hb; replace HB := s_ hb; clear hb; (try clear ho0)) | (refine gcL_ 21 (some 55) Try.func21 #[.slice A2 l4.length c6] ?_; (with_reducible refine (laws_toDigestS.calls _ _ _ _ _ _ ?side1 ?side2 A10.out).mono ?_); (case side1 => exact cU_ (Kd.C_below HR6.out HB.out)); (case side2 => exact HC6.out); rintro e w14 ⟨v3, rfl, ho0, hb⟩; refine ⟨_, rfl, ?_⟩; replace HO0 := a_ (Kd.S_elder' (uS_ HO0.out) (Kd.R_base ho0) hb); have HO2 := a_ (Kd.R_lower (Kd.R_new' ho0 (Kd.R_lt (kdU_ HO1.out))) (below_size bel_)); replace HO1 := a_ (Kd.R_elder' (kdU_ HO1.out) (Kd.R_base ho0) hb); replace BK0 := bb_ BK0.out hb; replace HB := s_ hb; clear hb; (try clear ho0); obtain ⟨Ao4, co4, eo0⟩ := Kd.S_slice HO0.out; subst eo0; obtain ⟨Ao2, co2, eo1⟩ := Kd.R_slice HO1.out; subst eo1; obtain ⟨Ao5, co5, eo2⟩ := Kd.R_slice HO2.out; subst eo2) | (refine gcB_ 26 56 Try.func26 (spec_ClashOfChain.calls _ _ _ _ _ _ _ _ _ _ _ (fun k_ => some k_ = (.slice Ao2 t10.length co2 : Value).ownBlock) _ _ _ _ _ _ _ _ _ _ _ ?side1 ?side2 ?side3 ?side4 ?side5 A11.out) ?_; (case side1 => exact cU_ (Kd.S_reads' HO0.out).2.2); (case side2 => exact (Kd.S_reads' HO0.out).2.1); (case side3 => exact Kd.R_V (Kd.R_tight rfl (Kd.R_types (Kd.R_apart' (HO1.out) (Kd.S_typed HO0.out) (by decide)) BK0.out (by decide)))); (case side4 => exact cU_ (Kd.R_reads' HO2.out).2.2); (case side5 => exact (Kd.R_reads' HO2.out).2.1); intro w15 hb; replace HO0 := a_ (Kd.S_below (uS_ HO0.out) hb); replace HO1 := rb_ HO1.out hb; replace HO2 := rb_ HO2.out hb; replace BK0 := bb_ BK0.out hb; replace HB := s_ hb; clear hb) | ((with_reducible refine gate_dst (N := 16) rfl ?_); refine boxE_ (cs := #[.string (⟨#[]⟩ : ByteArray), .string (⟨#[]⟩ : ByteArray)]) (t := 46) ?_; intro gb1 hg w16 hbox hb; replace HO0 := a_ (Kd.S_below (uS_ HO0.out) hb); replace HO1 := rb_ HO1.out hb; replace HO2 := rb_ HO2.out hb; have BK1 := a_ (hbox); have GW1 := sizeB_ hg; replace HB := s_ hb; obtain ⟨NB0, NB2⟩ := ne2_ BK0.out hg; replace BK0 := bb_ BK0.out hb; clear hb hbox hg; have hnb0 := NB2.out; have hnc0 := NB0.out; obtain ⟨z5, z6, f5, f6⟩ := cz2_ BK1.out) | (refine gcL_ 13 (some 60) Try.func13 #[.slice A0 l1.length c12] ?_; (with_reducible refine (laws_toGrowthS.calls _ _ _ _ _ _ ?side1 ?side2 A12.out).mono ?_); (case side1 => exact Kd.C_below HR1.out bel_); (case side2 => exact HC1.out); rintro e w17 ⟨v4, rfl, ho0, hb⟩; refine ⟨_, rfl, ?_⟩; have HO3 := a_ (Kd.S_lower (Kd.S_new' (Kd.S_new' (Kd.S_new' ho0 (Kd.S_lt (uS_ (Kd.S_mono (Kd.S_far (p := ⟨gb1, 1, none⟩) (Kd.S_far (p := ⟨gb1, 0, none⟩) (Kd.S_types HO0.out BK1.out (by decide)) (fun _ hk => hk.2) (.string t2)) (fun _ hk => hk.2) (.string t3)) (fun _ h_ => h_.1))))) (Kd.R_lt (uR_ (Kd.R_mono (Kd.R_far (p := ⟨gb1, 1, none⟩) (Kd.R_far (p := ⟨gb1, 0, none⟩) (Kd.R_types HO1.out BK1.out (by decide)) (fun _ hk => hk.2) (.string t2)) (fun _ hk => hk.2) (.string t3)) (fun _ h_ => h_.1))))) (Kd.R_lt (uR_ (Kd.R_mono (Kd.R_far (p := ⟨gb1, 1, none⟩) (Kd.R_far (p := ⟨gb1, 0, none⟩) (Kd.R_types HO2.out BK1.out (by decide)) (fun _ hk => hk.2) (.string t2)) (fun _ hk => hk.2) (.string t3)) (fun _ h_ => h_.1))))) (below_size bel_)); replace HO0 := a_ (Kd.S_elder' (uS_ (Kd.S_mono (Kd.S_far (p := ⟨gb1, 1, none⟩) (Kd.S_far (p := ⟨gb1, 0, none⟩) (Kd.S_types HO0.out BK1.out (by decide)) (fun _ hk => hk.2) (.string t2)) (fun _ hk => hk.2) (.string t3)) (fun _ h_ => h_.1))) (Kd.S_base ho0) hb); replace HO1 := a_ (Kd.R_below (uR_ (Kd.R_mono (Kd.R_far (p := ⟨gb1, 1, none⟩) (Kd.R_far (p := ⟨gb1, 0, none⟩) (Kd.R_types HO1.out BK1.out (by decide)) (fun _ hk => hk.2) (.string t2)) (fun _ hk => hk.2) (.string t3)) (fun _ h_ => h_.1))) hb); replace HO2 := a_ (Kd.R_below (uR_ (Kd.R_mono (Kd.R_far (p := ⟨gb1, 1, none⟩) (Kd.R_far (p := ⟨gb1, 0, none⟩) (Kd.R_types HO2.out BK1.out (by decide)) (fun _ hk => hk.2) (.string t2)) (fun _ hk => hk.2) (.string t3)) (fun _ h_ => h_.1))) hb); replace BK0 := bb_ BK0.out hb; replace BK1 := blkPB_ (cs := #[.string t2, .string t3]) BK1.out hb; replace HB := s_ hb; clear hb; (try clear ho0)) | (refine gcL_ 21 (some 62) Try.func21 #[.slice A1 l3.length c4] ?_; (with_reducible refine (laws_toDigestS.calls _ _ _ _ _ _ ?side1 ?side2 A13.out).mono ?_); (case side1 => exact cU_ (Kd.C_below HR4.out HB.out)); (case side2 => exact HC4.out); rintro e w18 ⟨v5, rfl, ho0, hb⟩; refine ⟨_, rfl, ?_⟩; replace HO0 := a_ (Kd.S_elder' (uS_ HO0.out) (Kd.R_base ho0) hb); replace HO3 := a_ (Kd.S_elder' (uS_ HO3.out) (Kd.R_base ho0) hb); have HO4 := a_ (Kd.R_lower (Kd.R_new' (Kd.R_new' ho0 (Kd.R_lt (kdU_ HO1.out))) (Kd.R_lt (kdU_ HO2.out))) (below_size bel_)); replace HO1 := a_ (Kd.R_elder' (kdU_ HO1.out) (Kd.R_base ho0) hb); replace HO2 := a_ (Kd.R_elder' (kdU_ HO2.out) (Kd.R_base ho0) hb); replace BK0 := bb_ BK0.out hb; replace BK1 := bb_ BK1.out hb; replace HB := s_ hb; clear hb; (try clear ho0)) | (refine gcL_ 21 (some 64) Try.func21 #[.slice A2 l4.length c6] ?_; (with_reducible refine (laws_toDigestS.calls _ _ _ _ _ _ ?side1 ?side2 A14.out).mono ?_); (case side1 => exact cU_ (Kd.C_below HR6.out HB.out)); (case side2 => exact HC6.out); rintro e w19 ⟨v6, rfl, ho0, hb⟩; refine ⟨_, rfl, ?_⟩; replace HO0 := a_ (Kd.S_elder' (uS_ HO0.out) (Kd.R_base ho0) hb); replace HO3 := a_ (Kd.S_elder' (uS_ HO3.out) (Kd.R_base ho0) hb); have HO5 := a_ (Kd.R_lower (Kd.R_new' (Kd.R_new' (Kd.R_new' ho0 (Kd.R_lt (kdU_ HO1.out))) (Kd.R_lt (kdU_ HO2.out))) (Kd.R_lt (kdU_ HO4.out))) (below_size bel_)); replace HO1 := a_ (Kd.R_elder' (kdU_ HO1.out) (Kd.R_base ho0) hb); replace HO2 := a_ (Kd.R_elder' (kdU_ HO2.out) (Kd.R_base ho0) hb); replace HO4 := a_ (Kd.R_elder' (kdU_ HO4.out) (Kd.R_base ho0) hb); replace BK0 := bb_ BK0.out hb; replace BK1 := bb_ BK1.out hb; replace HB := s_ hb; clear hb; (try clear ho0); obtain ⟨z7, z8, z9, z10, z11, f7, f8, f9, f10, f11⟩ := cz5_ BK0.out) | (refine gcB_ 12 67 Try.func12 (laws_toPoint.calls _ _ _ _ _ _ _ _ _ _ _ A15.out) ?_; intro w20 hb; replace HO0 := a_ (Kd.S_below (uS_ HO0.out) hb); replace HO1 := rb_ HO1.out hb; replace HO2 := rb_ HO2.out hb; replace HO3 := a_ (Kd.S_below (uS_ HO3.out) hb); replace HO4 := rb_ HO4.out hb; replace HO5 := rb_ HO5.out hb; replace BK0 := bb_ BK0.out hb; replace BK1 := bb_ BK1.out hb; replace HB := s_ hb; clear hb; obtain ⟨Ao3, co3, eo3⟩ := Kd.S_slice HO3.out; subst eo3; obtain ⟨Ao0, co0, eo4⟩ := Kd.R_slice HO4.out; subst eo4; obtain ⟨Ao1, co1, eo5⟩ := Kd.R_slice HO5.out; subst eo5) | (refine gcB_ 27 74 Try.func27 (impl_ClashOfChain.calls _ _ _ _ _ _ _ _ _ _ _ (fun k_ => some k_ = (.slice Ao0 t4.length co0 : Value).ownBlock) _ _ _ _ _ _ _ _ _ _ _ ?side1 ?side2 ?side3 ?side4 ?side5 A16.out) ?_; (case side1 => exact cU_ (Kd.S_reads' HO3.out).2.2); (case side2 => exact (Kd.S_reads' HO3.out).2.1); (case side3 => exact Kd.R_V (Kd.R_tight rfl (Kd.R_types (Kd.R_types (Kd.R_apart' (Kd.R_apart' (HO4.out) (Kd.S_typed HO0.out) (by decide)) (Kd.S_typed HO3.out) (by decide)) BK0.out (by decide)) BK1.out (by decide)))); (case side4 => exact cU_ (Kd.R_reads' HO5.out).2.2); (case side5 => exact (Kd.R_reads' HO5.out).2.1); intro w21 hb; replace HO0 := a_ (Kd.S_below (uS_ HO0.out) hb); replace HO1 := rb_ HO1.out hb; replace HO2 := rb_ HO2.out hb; replace HO3 := a_ (Kd.S_below (uS_ HO3.out) hb); replace HO4 := rb_ HO4.out hb; replace HO5 := rb_ HO5.out hb; replace BK0 := bb_ BK0.out hb; replace BK1 := bb_ BK1.out hb; replace HB := s_ hb; clear hb) | ((with_reducible refine gate_dst (N := 21) rfl ?_); refine boxE_ (cs := #[.string (⟨#[]⟩ : ByteArray), .string (⟨#[]⟩ : ByteArray)]) (t := 46) ?_; intro gb0 hg w22 hbox hb; replace HO0 := a_ (Kd.S_below (uS_ HO0.out) hb); replace HO1 := rb_ HO1.out hb; replace HO2 := rb_ HO2.out hb; replace HO3 := a_ (Kd.S_below (uS_ HO3.out) hb); replace HO4 := rb_ HO4.out hb; replace HO5 := rb_ HO5.out hb; have BK2 := a_ (hbox); have GW2 := sizeB_ hg; replace HB := s_ hb; obtain ⟨NB1, NB4⟩ := ne2_ BK0.out hg; replace BK0 := bb_ BK0.out hb; obtain ⟨NB3, NB5⟩ := ne2_ BK1.out hg; replace BK1 := bb_ BK1.out hb; clear hb hbox hg; have hnb1 := NB4.out; have hnc1 := NB1.out; have hnb2 := NB5.out; have hnc2 := NB3.out; obtain ⟨z12, z13, f12, f13⟩ := cz2_ BK2.out))
      (try simp only [Act.put, List.setIfInBounds_toArray, List.set_cons_zero, List.set_cons_succ])
      go_cut [85] (fun v0 wc => ∃ (kq : Nat) (x0 : Bool), v0 = .bool x0 ∧ Aside0 (laws_FnExactClashOfChain.j0 kq l1 l3 l4 t6 t4 t5 x0 = some r) ∧ Aside0 (kq ≤ k) ∧ Aside0 (Kd.S k51 51 wc w.heap.size (fun k_ => some k_ ≠ ((.slice Ao0 t4.length co0) : Value).ownBlock ∧ some k_ ≠ ((.slice Ao1 t5.length co1) : Value).ownBlock) (.slice Ao3 t6.length co3) t6) ∧ Aside0 (Kd.R k29 29 wc w.heap.size (fun k_ => some k_ ≠ ((.slice Ao1 t5.length co1) : Value).ownBlock) (.slice Ao0 t4.length co0) t4) ∧ Aside0 (Kd.R k29 29 wc w.heap.size (fun k_ => some k_ ≠ ((.slice Ao0 t4.length co0) : Value).ownBlock) (.slice Ao1 t5.length co1) t5) ∧ Aside0 (wc.heap[gb2]? = some (.cells #[.int .i64 a0, .int .u64 a1, .int .u64 a2, .int .u64 a3, .int .u64 a4] 26 (0, 0))) ∧ Aside0 (wc.heap[gb1]? = some (.cells #[.string t2, .string t3] 46 (0, 0))) ∧ Aside0 (wc.heap[gb0]? = some (.cells #[.string t0, .string t1] 46 (0, 0))) ∧ Aside0 (Below w.heap.size w wc))
      case first =>
       have H := HC34.out
       clear HC34
       obtain ⟨t13, A6, H⟩ := bnd_ H
       by_cases c13 : t13 = true
       ·subst c13
        rw [if_pos rfl] at H
        have H' := a_ H
        clear H
        have hnb3 := NB4.out
        have hnc3 := NB1.out
        have hnb4 := NB5.out
        have hnc4 := NB3.out
        obtain ⟨z14, z15, f14, f15⟩ := cz2_ BK2.out
        have hnb5 := NB2.out
        have hnc5 := NB0.out
        obtain ⟨z16, z17, f16, f17⟩ := cz2_ BK1.out
        go_wp2_with (first | (refine gcB_ 23 79 Try.func23 (laws_eqClash.calls _ _ _ _ _ _ A6.out) ?_; intro w23 hb; replace HO0 := a_ (Kd.S_below (uS_ (Kd.S_mono (Kd.S_far (p := ⟨gb0, 1, none⟩) (Kd.S_far (p := ⟨gb0, 0, none⟩) (Kd.S_types HO0.out BK2.out (by decide)) (fun _ hk => hk.2) (.string t0)) (fun _ hk => hk.2) (.string t1)) (fun _ h_ => h_.1))) hb); replace HO1 := a_ (Kd.R_below (uR_ (Kd.R_mono (Kd.R_far (p := ⟨gb0, 1, none⟩) (Kd.R_far (p := ⟨gb0, 0, none⟩) (Kd.R_types HO1.out BK2.out (by decide)) (fun _ hk => hk.2) (.string t0)) (fun _ hk => hk.2) (.string t1)) (fun _ h_ => h_.1))) hb); replace HO2 := a_ (Kd.R_below (uR_ (Kd.R_mono (Kd.R_far (p := ⟨gb0, 1, none⟩) (Kd.R_far (p := ⟨gb0, 0, none⟩) (Kd.R_types HO2.out BK2.out (by decide)) (fun _ hk => hk.2) (.string t0)) (fun _ hk => hk.2) (.string t1)) (fun _ h_ => h_.1))) hb); replace HO3 := a_ (Kd.S_below (uS_ (Kd.S_mono (Kd.S_far (p := ⟨gb0, 1, none⟩) (Kd.S_far (p := ⟨gb0, 0, none⟩) (Kd.S_types HO3.out BK2.out (by decide)) (fun _ hk => hk.2) (.string t0)) (fun _ hk => hk.2) (.string t1)) (fun _ h_ => h_.1))) hb); replace HO4 := a_ (Kd.R_below (uR_ (Kd.R_mono (Kd.R_far (p := ⟨gb0, 1, none⟩) (Kd.R_far (p := ⟨gb0, 0, none⟩) (Kd.R_types HO4.out BK2.out (by decide)) (fun _ hk => hk.2) (.string t0)) (fun _ hk => hk.2) (.string t1)) (fun _ h_ => h_.1))) hb); replace HO5 := a_ (Kd.R_below (uR_ (Kd.R_mono (Kd.R_far (p := ⟨gb0, 1, none⟩) (Kd.R_far (p := ⟨gb0, 0, none⟩) (Kd.R_types HO5.out BK2.out (by decide)) (fun _ hk => hk.2) (.string t0)) (fun _ hk => hk.2) (.string t1)) (fun _ h_ => h_.1))) hb); replace BK0 := bb_ BK0.out hb; replace BK1 := bb_ BK1.out hb; replace BK2 := blkPB_ (cs := #[.string t0, .string t1]) BK2.out hb; replace HB := s_ hb; clear hb))
        go_meet
        case rel => exact ⟨_, ((t12 != t11)), rl_, H', ⟨by first | omega | exact Nat.le_refl _⟩, ⟨uS_ (Kd.S_mono HO3.out (fun _ hk => ⟨hk.1.2, hk.2⟩))⟩, ⟨uR_ (Kd.R_mono HO4.out (fun _ hk => hk.2))⟩, ⟨uR_ (Kd.R_mono HO5.out (fun _ hk => hk.2))⟩, ⟨blkU_ BK0.out⟩, ⟨blkU_ BK1.out⟩, ⟨blkU_ BK2.out⟩, ⟨bel_⟩⟩
       ·replace c13 := Bool.eq_false_iff.mpr c13
        subst c13
        rw [if_neg (show ¬ (false = true) by decide)] at H
        have H' := a_ H
        clear H
        have hnb6 := NB4.out
        have hnc6 := NB1.out
        have hnb7 := NB5.out
        have hnc7 := NB3.out
        obtain ⟨z18, z19, f18, f19⟩ := cz2_ BK2.out
        have hnb8 := NB2.out
        have hnc8 := NB0.out
        obtain ⟨z20, z21, f20, f21⟩ := cz2_ BK1.out
        go_wp2_with (first | (refine gcB_ 23 79 Try.func23 (laws_eqClash.calls _ _ _ _ _ _ A6.out) ?_; intro w24 hb; replace HO0 := a_ (Kd.S_below (uS_ (Kd.S_mono (Kd.S_far (p := ⟨gb0, 1, none⟩) (Kd.S_far (p := ⟨gb0, 0, none⟩) (Kd.S_types HO0.out BK2.out (by decide)) (fun _ hk => hk.2) (.string t0)) (fun _ hk => hk.2) (.string t1)) (fun _ h_ => h_.1))) hb); replace HO1 := a_ (Kd.R_below (uR_ (Kd.R_mono (Kd.R_far (p := ⟨gb0, 1, none⟩) (Kd.R_far (p := ⟨gb0, 0, none⟩) (Kd.R_types HO1.out BK2.out (by decide)) (fun _ hk => hk.2) (.string t0)) (fun _ hk => hk.2) (.string t1)) (fun _ h_ => h_.1))) hb); replace HO2 := a_ (Kd.R_below (uR_ (Kd.R_mono (Kd.R_far (p := ⟨gb0, 1, none⟩) (Kd.R_far (p := ⟨gb0, 0, none⟩) (Kd.R_types HO2.out BK2.out (by decide)) (fun _ hk => hk.2) (.string t0)) (fun _ hk => hk.2) (.string t1)) (fun _ h_ => h_.1))) hb); replace HO3 := a_ (Kd.S_below (uS_ (Kd.S_mono (Kd.S_far (p := ⟨gb0, 1, none⟩) (Kd.S_far (p := ⟨gb0, 0, none⟩) (Kd.S_types HO3.out BK2.out (by decide)) (fun _ hk => hk.2) (.string t0)) (fun _ hk => hk.2) (.string t1)) (fun _ h_ => h_.1))) hb); replace HO4 := a_ (Kd.R_below (uR_ (Kd.R_mono (Kd.R_far (p := ⟨gb0, 1, none⟩) (Kd.R_far (p := ⟨gb0, 0, none⟩) (Kd.R_types HO4.out BK2.out (by decide)) (fun _ hk => hk.2) (.string t0)) (fun _ hk => hk.2) (.string t1)) (fun _ h_ => h_.1))) hb); replace HO5 := a_ (Kd.R_below (uR_ (Kd.R_mono (Kd.R_far (p := ⟨gb0, 1, none⟩) (Kd.R_far (p := ⟨gb0, 0, none⟩) (Kd.R_types HO5.out BK2.out (by decide)) (fun _ hk => hk.2) (.string t0)) (fun _ hk => hk.2) (.string t1)) (fun _ h_ => h_.1))) hb); replace BK0 := bb_ BK0.out hb; replace BK1 := bb_ BK1.out hb; replace BK2 := blkPB_ (cs := #[.string t0, .string t1]) BK2.out hb; replace HB := s_ hb; clear hb))
        go_meet
        case rel => exact ⟨_, (true), rl_, H', ⟨by first | omega | exact Nat.le_refl _⟩, ⟨uS_ (Kd.S_mono HO3.out (fun _ hk => ⟨hk.1.2, hk.2⟩))⟩, ⟨uR_ (Kd.R_mono HO4.out (fun _ hk => hk.2))⟩, ⟨uR_ (Kd.R_mono HO5.out (fun _ hk => hk.2))⟩, ⟨blkU_ BK0.out⟩, ⟨blkU_ BK1.out⟩, ⟨blkU_ BK2.out⟩, ⟨bel_⟩⟩
      case rest =>
       clear HC34
       (try clear c12); (try clear c4); (try clear c6); (try clear c8); (try clear c23); (try clear c24); (try clear c10); (try clear c18); (try clear c19); (try clear c0); (try clear c20); (try clear c1); (try clear c21); (try clear c11); (try clear c22); (try clear c13); (try clear z0 z1 z2 z3 z4); (try clear z5 z6); (try clear z7 z8 z9 z10 z11); (try clear z12 z13); (try clear z14 z15); (try clear z16 z17); (try clear z18 z19); (try clear z20 z21); (try clear f0 f1 f2 f3 f4); (try clear f5 f6); (try clear f7 f8 f9 f10 f11); (try clear f12 f13); (try clear f14 f15); (try clear f16 f17); (try clear f18 f19); (try clear f20 f21)
       obtain ⟨kq, x0, rfl, HA, HJ33, HO_2, HO_0, HO_1, BK0, BK1, BK2, HB⟩ := hcut
       cases kq with
       | zero => exact absurd HA.out (by simp [laws_FnExactClashOfChain.j0])
       | succ kj0 =>
        have H := HA.out
        clear HA
        simp only [laws_FnExactClashOfChain.j0] at H
        by_cases c14 : x0 = true
        ·subst c14
         rw [if_pos rfl] at H
         exact absurd ((Option.some.inj H).trans hr_) (by decide)
        ·replace c14 := Bool.eq_false_iff.mpr c14
         subst c14
         rw [if_neg (show ¬ (false = true) by decide)] at H
         obtain ⟨t29, A17, H⟩ := bnd_ H
         obtain ⟨t14, A18, H⟩ := bnd_ H
         by_cases c15 : t14 = true
         ·subst c15
          rw [if_pos rfl] at H
          obtain ⟨t30, A19, H⟩ := bnd_ H
          obtain ⟨t15, A20, H⟩ := bnd_ H
          by_cases c16 : t15 = true
          ·subst c16
           rw [if_pos rfl] at H
           obtain ⟨t31, A21, H⟩ := bnd_ H
           obtain ⟨t16, A22, H⟩ := bnd_ H
           by_cases c17 : t16 = true
           ·subst c17
            rw [if_pos rfl] at H
            obtain rfl := Option.some.inj H
            go_wp2_with (first | (refine gcL_ 13 (some 88) Try.func13 #[.slice A0 l1.length c12] ?_; (with_reducible refine (laws_toGrowthS.calls _ _ _ _ _ _ ?side1 ?side2 A17.out).mono ?_); (case side1 => exact cU_ (Kd.C_below HR1.out HB.out)); (case side2 => exact HC1.out); rintro e w25 ⟨v7, rfl, ho0, hb⟩; refine ⟨_, rfl, ?_⟩; have HO6 := a_ (Kd.S_lower (Kd.S_new' (Kd.S_new' (Kd.S_new' ho0 (Kd.S_lt (uS_ HO_2.out))) (Kd.R_lt (kdU_ HO_0.out))) (Kd.R_lt (kdU_ HO_1.out))) (below_size bel_)); replace HO_2 := a_ (Kd.S_elder' (uS_ HO_2.out) (Kd.S_base ho0) hb); replace HO_0 := rb_ HO_0.out hb; replace HO_1 := rb_ HO_1.out hb; replace BK0 := bb_ BK0.out hb; replace BK1 := bb_ BK1.out hb; replace BK2 := bb_ BK2.out hb; replace HB := s_ hb; clear hb; (try clear ho0); obtain ⟨Ao6, co6, eo6⟩ := Kd.S_slice HO6.out; subst eo6) | (refine gcB_ 16 89 Try.func16 (laws_eqGrowthS.calls _ _ _ _ _ _ _ _ _ ?side1 ?side2 ?side3 ?side4 A18.out) ?_; (case side1 => exact cU_ (Kd.S_reads' HO_2.out).2.2); (case side2 => exact (Kd.S_reads' HO_2.out).2.1); (case side3 => exact cU_ (Kd.S_reads' HO6.out).2.2); (case side4 => exact (Kd.S_reads' HO6.out).2.1); intro w26 hb; replace HO_2 := a_ (Kd.S_below (uS_ HO_2.out) hb); replace HO_0 := rb_ HO_0.out hb; replace HO_1 := rb_ HO_1.out hb; replace HO6 := a_ (Kd.S_below (uS_ HO6.out) hb); replace BK0 := bb_ BK0.out hb; replace BK1 := bb_ BK1.out hb; replace BK2 := bb_ BK2.out hb; replace HB := s_ hb; clear hb) | (refine gcL_ 21 (some 93) Try.func21 #[.slice A1 l3.length c4] ?_; (with_reducible refine (laws_toDigestS.calls _ _ _ _ _ _ ?side1 ?side2 A19.out).mono ?_); (case side1 => exact cU_ (Kd.C_below HR4.out HB.out)); (case side2 => exact HC4.out); rintro e w27 ⟨v8, rfl, ho0, hb⟩; refine ⟨_, rfl, ?_⟩; replace HO_2 := a_ (Kd.S_elder' (uS_ HO_2.out) (Kd.R_base ho0) hb); replace HO6 := a_ (Kd.S_elder' (uS_ HO6.out) (Kd.R_base ho0) hb); have HO7 := a_ (Kd.R_lower (Kd.R_new' (Kd.R_new' ho0 (Kd.R_lt (kdU_ HO_0.out))) (Kd.R_lt (kdU_ HO_1.out))) (below_size bel_)); replace HO_0 := a_ (Kd.R_elder' (kdU_ HO_0.out) (Kd.R_base ho0) hb); replace HO_1 := a_ (Kd.R_elder' (kdU_ HO_1.out) (Kd.R_base ho0) hb); replace BK0 := bb_ BK0.out hb; replace BK1 := bb_ BK1.out hb; replace BK2 := bb_ BK2.out hb; replace HB := s_ hb; clear hb; (try clear ho0); obtain ⟨Ao7, co7, eo7⟩ := Kd.R_slice HO7.out; subst eo7) | (refine gcB_ 25 94 Try.func25 (laws_eqDigestS.calls _ _ _ _ _ _ _ _ _ ?side1 ?side2 ?side3 ?side4 A20.out) ?_; (case side1 => exact cU_ (Kd.R_reads' HO_0.out).2.2); (case side2 => exact (Kd.R_reads' HO_0.out).2.1); (case side3 => exact cU_ (Kd.R_reads' HO7.out).2.2); (case side4 => exact (Kd.R_reads' HO7.out).2.1); intro w29 hb; replace HO_2 := a_ (Kd.S_below (uS_ HO_2.out) hb); replace HO_0 := rb_ HO_0.out hb; replace HO_1 := rb_ HO_1.out hb; replace HO6 := a_ (Kd.S_below (uS_ HO6.out) hb); replace HO7 := rb_ HO7.out hb; replace BK0 := bb_ BK0.out hb; replace BK1 := bb_ BK1.out hb; replace BK2 := bb_ BK2.out hb; replace HB := s_ hb; clear hb) | (refine gcL_ 21 (some 98) Try.func21 #[.slice A2 l4.length c6] ?_; (with_reducible refine (laws_toDigestS.calls _ _ _ _ _ _ ?side1 ?side2 A21.out).mono ?_); (case side1 => exact cU_ (Kd.C_below HR6.out HB.out)); (case side2 => exact HC6.out); rintro e w30 ⟨v9, rfl, ho0, hb⟩; refine ⟨_, rfl, ?_⟩; replace HO_2 := a_ (Kd.S_elder' (uS_ HO_2.out) (Kd.R_base ho0) hb); replace HO6 := a_ (Kd.S_elder' (uS_ HO6.out) (Kd.R_base ho0) hb); have HO8 := a_ (Kd.R_lower (Kd.R_new' (Kd.R_new' (Kd.R_new' ho0 (Kd.R_lt (kdU_ HO_0.out))) (Kd.R_lt (kdU_ HO_1.out))) (Kd.R_lt (kdU_ HO7.out))) (below_size bel_)); replace HO_0 := a_ (Kd.R_elder' (kdU_ HO_0.out) (Kd.R_base ho0) hb); replace HO_1 := a_ (Kd.R_elder' (kdU_ HO_1.out) (Kd.R_base ho0) hb); replace HO7 := a_ (Kd.R_elder' (kdU_ HO7.out) (Kd.R_base ho0) hb); replace BK0 := bb_ BK0.out hb; replace BK1 := bb_ BK1.out hb; replace BK2 := bb_ BK2.out hb; replace HB := s_ hb; clear hb; (try clear ho0); obtain ⟨Ao8, co8, eo8⟩ := Kd.R_slice HO8.out; subst eo8) | (refine gcB_ 25 99 Try.func25 (laws_eqDigestS.calls _ _ _ _ _ _ _ _ _ ?side1 ?side2 ?side3 ?side4 A22.out) ?_; (case side1 => exact cU_ (Kd.R_reads' HO_1.out).2.2); (case side2 => exact (Kd.R_reads' HO_1.out).2.1); (case side3 => exact cU_ (Kd.R_reads' HO8.out).2.2); (case side4 => exact (Kd.R_reads' HO8.out).2.1); intro w31 hb; replace HO_2 := a_ (Kd.S_below (uS_ HO_2.out) hb); replace HO_0 := rb_ HO_0.out hb; replace HO_1 := rb_ HO_1.out hb; replace HO6 := a_ (Kd.S_below (uS_ HO6.out) hb); replace HO7 := rb_ HO7.out hb; replace HO8 := rb_ HO8.out hb; replace BK0 := bb_ BK0.out hb; replace BK1 := bb_ BK1.out hb; replace BK2 := bb_ BK2.out hb; replace HB := s_ hb; clear hb))
            go_ret
            exact ⟨rfl_, bel_⟩
           ·replace c17 := Bool.eq_false_iff.mpr c17
            subst c17
            rw [if_neg (show ¬ (false = true) by decide)] at H
            exact absurd ((Option.some.inj H).trans hr_) (by decide)
          ·replace c16 := Bool.eq_false_iff.mpr c16
           subst c16
           rw [if_neg (show ¬ (false = true) by decide)] at H
           exact absurd ((Option.some.inj H).trans hr_) (by decide)
         ·replace c15 := Bool.eq_false_iff.mpr c15
          subst c15
          rw [if_neg (show ¬ (false = true) by decide)] at H
          exact absurd ((Option.some.inj H).trans hr_) (by decide)
end
end Go.Proofs.Ytflckegggopdnaa.B
