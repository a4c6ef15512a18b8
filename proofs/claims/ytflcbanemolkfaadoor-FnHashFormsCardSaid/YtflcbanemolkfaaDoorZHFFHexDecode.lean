/- What the Go functions encoding/hex.Decode do is what the Lean functions .f of their names here say; condition: .f gives an answer. (Written by the session's program pp.py over the kit's print; Lean checks it.) -/
import Derived.Test.YtflcbanemolkfaaDoorZHFK
import Derived.Test.YtflcbanemolkfaaDoorZHFM
import Derived.Test.YtflcbanemolkfaaDoorZHFHHexKit
namespace Go.Proofs.YtflcbanemolkfaaDoor.B
open Go.RowKit Go.Proofs.YtflcbanemolkfaaDoorW.PrintWords Go.Proofs.YtflcbanemolkfaaDoorW.PrintLast Go.Proofs.YtflcbanemolkfaaDoorW.PrintMore
attribute [local go_sem] max2_int min2_int max_two min_two max_three min_three max_four min_four
set_option linter.unusedVariables false
set_option linter.unusedSimpArgs false
section
def hex_Decode.l0 : Nat → List Int → List Int → Int → Int → Option (Int × Int × List Int)
  | 0, _, _, _, _ => none
  | k + 1, x0, x1, x6, x7 => if x7 < (wrap64 ((x1.length : Int) - 1)) then (if 0 ≤ x7 then (if x7 < (x1.length : Int) then (if 0 ≤ (wrap64 (x7 + 1)) then (if (wrap64 (x7 + 1)) < (x1.length : Int) then (if 0 ≤ (rd x1 x7) then (if (rd x1 x7) < 256 then (if 0 ≤ (rd x1 (wrap64 (x7 + 1))) then (if (rd x1 (wrap64 (x7 + 1))) < 256 then (if (bt hexTab (rd x1 x7)) > 15 then (none) else (if (bt hexTab (rd x1 (wrap64 (x7 + 1)))) > 15 then (none) else (if 0 ≤ x6 then (if x6 < (x0.length : Int) then (hex_Decode.l0 k (x0.set (x6 : Int).toNat (Go.bits .or .u8 (((bt hexTab (rd x1 x7)) * 16) % 256) (bt hexTab (rd x1 (wrap64 (x7 + 1)))))) x1 (wrap64 (x6 + 1)) (wrap64 (x7 + 2))) else (none)) else (none)))) else (none)) else (none)) else (none)) else (none)) else (none)) else (none)) else (none)) else (none)) else (if ((x1.length : Int) % 2) = 1 then (if 0 ≤ x7 then (if x7 < (x1.length : Int) then (if 0 ≤ (rd x1 x7) then (if (rd x1 x7) < 256 then (if (bt hexTab (rd x1 x7)) > 15 then (none) else (some (x6, 1, x0))) else (none)) else (none)) else (none)) else (none)) else (some (x6, 0, x0)))
def hex_Decode.f (k : Nat) (l0 : List Int) (l1 : List Int) : Option (Int × Int × List Int) := hex_Decode.l0 k l0 l1 0 0
theorem hex_Decode.mono_l : ∀ k, (∀ y0 y1 y2 y3, LeO (hex_Decode.l0 k y0 y1 y2 y3) (hex_Decode.l0 (k + 1) y0 y1 y2 y3))
  | 0 => fun _ _ _ _ r h => by simp [hex_Decode.l0] at h
  | k + 1 => by
    have ih0 := hex_Decode.mono_l k
    · intro y0 y1 y2 y3
      unfold hex_Decode.l0
      repeat' first | (with_reducible first | exact ih0 _ _ _ _ | exact LeO.refl _ | exact LeO.none _ | refine LeO.ite ?_ ?_ | refine LeO.bind ?_ (fun _ => ?_)) | exact ih0 _ _ _ _ | exact LeO.none _ | refine LeO.ite ?_ ?_ | refine LeO.bind ?_ (fun _ => ?_)
theorem hex_Decode.mono : ∀ a0 a1 k, LeO (hex_Decode.f k a0 a1) (hex_Decode.f (k + 1) a0 a1) := by
  intro a0 a1 k
  have ih0 := hex_Decode.mono_l k
  unfold hex_Decode.f
  repeat' first | (with_reducible first | exact ih0 _ _ _ _ | exact LeO.refl _ | exact LeO.none _ | refine LeO.ite ?_ ?_ | refine LeO.bind ?_ (fun _ => ?_)) | exact ih0 _ _ _ _ | exact LeO.none _ | refine LeO.ite ?_ ?_ | refine LeO.bind ?_ (fun _ => ?_)
set_option maxHeartbeats 8000000 in
set_option maxRecDepth 100000 in
theorem hex_Decode.calls (k : Nat) (P0_ : Nat → Prop) (u9000_ : Value) (l0 : List Int) (A1 : Option Addr) (c1 : Nat) (l1 : List Int) (r1 : Int) (r2 : Int) (r3 : List Int) (w0 w : World) (hB : Below w0.heap.size w0 w) (ho0 : Kd.R (Kd.int .u8) 5 w w0.heap.size P0_ u9000_ l0) (hr1 : ∀ W_, Kept w W_ (fun k_ => P0_ k_) → Kd.C (Kd.int .u8) W_ A1 l1.length l1) (hc1 : l1.length ≤ c1) (ea_ : Addr) (hE : w0.cell? ⟨1, 0, none⟩ = some (EVp ea_)) (h : hex_Decode.f k l0 l1 = some (r1, r2, r3)) :
    Calls Tryd.prog 36 #[u9000_, .slice A1 l1.length c1] w fun e w' => e = .returned (.tuple #[.int .i64 r1, errV ea_ r2]) ∧ Kd.R (Kd.int .u8) 5 w' w0.heap.size (fun k_ => (P0_ k_ ∨ w.heap.size ≤ k_)) u9000_ r3 ∧ Below w0.heap.size w0 w' ∧ Kept w w' (fun k_ => P0_ k_) := by
  have HO0 := Aside0.mk (show Kd.R (Kd.int .u8) 5 w w0.heap.size (fun k_ => (P0_ k_ ∨ w.heap.size ≤ k_)) u9000_ l0 from Kd.R_mono ho0 (fun k_ hk => (.inl hk)))
  have HR1 := Aside0.mk hr1
  have HC1 := Aside0.mk hc1
  clear hr1 hc1
  have HK := Aside0.mk (Kept.refl w (fun k_ => P0_ k_))
  have HW0 := Aside0.mk hB.size
  have HB := Aside0.mk hB
  clear hB
  have H : (hex_Decode.l0 k l0 l1 0 0) = some (r1, r2, r3) := h
  clear h
  have H' := Aside0.mk H
  clear H
  go_enter Tryd.func36, Tryd.ntmps36
  go_wp2
  repeat (go_quiet (fail); try go_wp2)
  go_loopg [6, 7] k (fun kq v6 v7 w' => ∃ (x0_1 : List Int) (x6_1 : Int) (x7_1 : Int), v6 = .int .i64 x6_1 ∧ v7 = .int .i64 x7_1 ∧ Aside0 (hex_Decode.l0 kq x0_1 l1 x6_1 x7_1 = some (r1, r2, r3)) ∧ Aside0 (kq ≤ k) ∧ Aside0 (Kd.R (Kd.int .u8) 5 w' w0.heap.size (fun k_ => (P0_ k_ ∨ w.heap.size ≤ k_)) u9000_ x0_1) ∧ Aside0 (Kept w w' (fun k_ => P0_ k_)) ∧ Aside0 (Below w0.heap.size w0 w'))
  case atStart => exact ⟨(l0), (0), (0), (by first | rfl | (simp; done) | (simp [*]; done)), (by first | rfl | (simp; done) | (simp [*]; done)), H', ⟨Nat.le_refl _⟩, ⟨kdU_ HO0.out⟩, ⟨by repeat (first | (with_reducible first | exact HK.out | apply Kept.alloc | apply Kept.drewN | apply Kept.drew) | exact HK.out)⟩, ⟨bel_⟩⟩
  case round =>
    clear H'
    (try clear c1)
    obtain ⟨x0_1, x6_1, x7_1, rfl, rfl, HA, HK1, HO_0, HK, HB⟩ := hrel
    cases gk with
    | zero => exact absurd HA.out (by simp [hex_Decode.l0])
    | succ k1 =>
      have H := HA.out
      clear HA
      simp only [hex_Decode.l0] at H
      by_cases c3 : x7_1 < (wrap64 ((l1.length : Int) - 1))
      · rw [if_pos c3] at H
        have c3b0 : decide (x7_1 < (wrap64 ((l1.length : Int) - 1))) = true := decide_eq_true c3
        clear c3
        by_cases c4 : 0 ≤ x7_1
        · rw [if_pos c4] at H
          have c4b0 : decide (0 ≤ x7_1) = true := decide_eq_true c4
          clear c4
          by_cases c5 : x7_1 < (l1.length : Int)
          · rw [if_pos c5] at H
            have c5b0 : decide (x7_1 < (l1.length : Int)) = true := decide_eq_true c5
            clear c5
            obtain ⟨ji6, hji6⟩ : ∃ j_ : Int, (wrap64 (x7_1 + 1)) = j_ := ⟨_, rfl⟩
            replace H : (if 0 ≤ (ji6) then (if (ji6) < (l1.length : Int) then (if 0 ≤ (rd l1 x7_1) then (if (rd l1 x7_1) < 256 then (if 0 ≤ (rd l1 (ji6)) then (if (rd l1 (ji6)) < 256 then (if (bt hexTab (rd l1 x7_1)) > 15 then (none) else (if (bt hexTab (rd l1 (ji6))) > 15 then (none) else (if 0 ≤ x6_1 then (if x6_1 < (x0_1.length : Int) then (hex_Decode.l0 k1 (x0_1.set (x6_1 : Int).toNat (Go.bits .or .u8 (((bt hexTab (rd l1 x7_1)) * 16) % 256) (bt hexTab (rd l1 (ji6))))) l1 (wrap64 (x6_1 + 1)) (wrap64 (x7_1 + 2))) else (none)) else (none)))) else (none)) else (none)) else (none)) else (none)) else (none)) else (none)) = some (r1, r2, r3) := by first | (rw [hji6] at H; exact H) | (simp only [hji6] at H ⊢; exact H)
            have hji6w : (IntKind.i64.wrap (x7_1 + 1)) = ji6 := (i64_w _).trans hji6
            by_cases c7 : 0 ≤ (ji6)
            · rw [if_pos c7] at H
              have c7b0 : decide (0 ≤ (ji6)) = true := decide_eq_true c7
              clear c7
              by_cases c8 : (ji6) < (l1.length : Int)
              · rw [if_pos c8] at H
                have c8b0 : decide ((ji6) < (l1.length : Int)) = true := decide_eq_true c8
                clear c8
                by_cases c9 : 0 ≤ (rd l1 x7_1)
                · rw [if_pos c9] at H
                  have c9b0 : decide (0 ≤ (rd l1 x7_1)) = true := decide_eq_true c9
                  clear c9
                  by_cases c10 : (rd l1 x7_1) < 256
                  · rw [if_pos c10] at H
                    have c10b0 : decide ((rd l1 x7_1) < 256) = true := decide_eq_true c10
                    clear c10
                    by_cases c12 : 0 ≤ (rd l1 (ji6))
                    · rw [if_pos c12] at H
                      have c12b0 : decide (0 ≤ (rd l1 (ji6))) = true := decide_eq_true c12
                      clear c12
                      by_cases c13 : (rd l1 (ji6)) < 256
                      · rw [if_pos c13] at H
                        have c13b0 : decide ((rd l1 (ji6)) < 256) = true := decide_eq_true c13
                        clear c13
                        by_cases c15 : (bt hexTab (rd l1 x7_1)) > 15
                        · rw [if_pos c15] at H
                          exact absurd H (by simp)
                        · rw [if_neg c15] at H
                          have c15b0 : decide (15 < (bt hexTab (rd l1 x7_1))) = false := decide_eq_false c15
                          clear c15
                          by_cases c16 : (bt hexTab (rd l1 (ji6))) > 15
                          · rw [if_pos c16] at H
                            exact absurd H (by simp)
                          · rw [if_neg c16] at H
                            have c16b0 : decide (15 < (bt hexTab (rd l1 (ji6)))) = false := decide_eq_false c16
                            clear c16
                            by_cases c17 : 0 ≤ x6_1
                            · rw [if_pos c17] at H
                              have c17b0 : decide (0 ≤ x6_1) = true := decide_eq_true c17
                              clear c17
                              by_cases c18 : x6_1 < (x0_1.length : Int)
                              · rw [if_pos c18] at H
                                have c18b0 : decide (x6_1 < (x0_1.length : Int)) = true := decide_eq_true c18
                                clear c18
                                obtain ⟨y140, hy140⟩ : ∃ y_ : List Int, y_ = (x0_1.set (x6_1 : Int).toNat (Go.bits .or .u8 (((bt hexTab (rd l1 x7_1)) * 16) % 256) (bt hexTab (rd l1 (ji6))))) := ⟨_, rfl⟩
                                replace H : (hex_Decode.l0 k1 y140 l1 (wrap64 (x6_1 + 1)) (wrap64 (x7_1 + 2))) = some (r1, r2, r3) := by first | (rw [hy140]; with_reducible exact H) | (have H2_ := (Option.bind_some _ _).symm.trans H; rw [hy140]; with_reducible exact H2_) | (have H2_ := (Option.bind_some _ _).symm.trans H; with_reducible exact H2_) | with_reducible exact H | (rw [hy140]; exact H) | exact H
                                have Ny140 := Aside0.mk hy140
                                clear hy140
                                have H' := Aside0.mk H
                                clear H
                                have p138 : 0 ≤ (x7_1 : Int) := ofd_
                                have q138 : x7_1 < (l1.length : Int) := ofd_
                                obtain ⟨ad138, e138, hx138_0⟩ := Kd.at_int (Kd.C_kept_now HR1.out HK.out) x7_1 p138 q138
                                cases e138
                                replace p138 := eq_true p138
                                replace q138 := eq_true q138
                                have p139 : 0 ≤ ((ji6) : Int) := ofd_
                                have q139 : (ji6) < (l1.length : Int) := ofd_
                                obtain ⟨ad139, e139, hx139_0⟩ := Kd.at_int (Kd.C_kept_now HR1.out HK.out) (ji6) p139 q139
                                obtain rfl : ad138 = ad139 := (by injection e139)
                                replace p139 := eq_true p139
                                replace q139 := eq_true q139
                                have p11 : 0 ≤ ((rd l1 x7_1) : Int) := ofd_
                                have q11 : (rd l1 x7_1) < (256 : Int) := ofd_
                                have hx11 := bt_at hexTab (rd l1 x7_1)
                                replace p11 := eq_true p11
                                replace q11 := eq_true q11
                                have p14 : 0 ≤ ((rd l1 (ji6)) : Int) := ofd_
                                have q14 : (rd l1 (ji6)) < (256 : Int) := ofd_
                                have hx14 := bt_at hexTab (rd l1 (ji6))
                                replace p14 := eq_true p14
                                replace q14 := eq_true q14
                                have p19 : 0 ≤ (x6_1 : Int) := ofd_
                                have q19 : (x6_1 : Int) < ((x0_1.length : Int) : Int) := ofd_
                                obtain ⟨go19, co19, eo19, gb19, gl19, cl19, HG19⟩ := Kd.R_form HO_0.out (by omega)
                                (first | cases eo19 | (injection eo19 with ea_ en_ ec_; (first | subst ea_ | (injection ea_ with ea_; subst ea_)); subst ec_; clear en_))
                                have GB19 := Aside0.mk gb19
                                have GG19 := Aside0.mk HG19
                                clear gb19 gl19 HG19
                                have HMgo19 := Aside0.mk (show (P0_ go19 ∨ w.heap.size ≤ go19) from (HO_0.out.1 _ rfl))
                                obtain ⟨hx19_0, hf19_0⟩ := Kd.R_celln 0 HO_0.out (x6_1 : Int) p19 q19
                                replace p19 := eq_true p19
                                replace q19 := eq_true q19
                                have HP20 := Kd.R_putg HO_0.out (x6_1 : Int) (Go.bits .or .u8 (((bt hexTab (rd l1 x7_1)) * 16) % 256) (bt hexTab (rd l1 (ji6))))
                                go_wp2_with (first | ((with_reducible refine gate_store (t := 5) (p := 48) rfl ?_); (try (rw [drewN_self wr]; generalize hq_ : World.drewN wr _ = wr; have n0_ := Aside0.mk (Kd.R_at hq_ HO_0.out); have n1_ := Aside0.mk (kept_at hq_ HK.out); have n2_ := Aside0.mk (below_at hq_ HB.out); clear hq_ HO_0 HK HB; have HO_0 := n0_; have HK := n1_; have HB := n2_; clear n0_ n1_ n2_; (try (have HP20 := Kd.R_putg HO_0.out (x6_1 : Int) (Go.bits .or .u8 (((bt hexTab (rd l1 x7_1)) * 16) % 256) (bt hexTab (rd l1 (ji6)))))))); refine store_event (t := 5) (p := 48) (v := ?vo_w21) (w1 := (wr.setCell ⟨go19, (x6_1 : Int).toNat, none⟩ (.int .u8 (Go.bits .or .u8 (((bt hexTab (rd l1 x7_1)) * 16) % 256) (bt hexTab (rd l1 (ji6))))))) ?hg ?ho ?hn ?hr ?_; (case ho => rfl); (case hg => rfl); (case hn => rfl); (case hr => first | (go_simp; done) | (go_simp; rfl)); intro w21 hw; have hg : wr.grownBy w21 (some go19) := (by rw [hw]; exact HP20.2); have hp_ : Kd.R (Kd.int .u8) 5 w21 w0.heap.size (fun k_ => (P0_ k_ ∨ w.heap.size ≤ k_)) (.slice (some ⟨go19, 0, none⟩) x0_1.length co19) y140 := (by rw [hw, Ny140.out]; exact HP20.1); clear HP20; replace HB := Aside0.mk ((by rw [hw]; exact below_set (HB.out) GB19.out : Below w0.heap.size w0 w21)); replace HK := Aside0.mk (Kept.of_grown (S := (fun k_ => P0_ k_)) hg (by repeat (first | (with_reducible first | exact HK.out | apply Kept.alloc | apply Kept.drewN | apply Kept.drew) | exact HK.out)) (fun k_ e_ => (HO_0.out.1 k_ e_))); replace HO_0 := Aside0.mk (hp_); clear hg hw hp_))
                                repeat (go_quiet (first | ((with_reducible refine gate_store (t := 5) (p := 48) rfl ?_); (try (rw [drewN_self wr]; generalize hq_ : World.drewN wr _ = wr; have n0_ := Aside0.mk (Kd.R_at hq_ HO_0.out); have n1_ := Aside0.mk (kept_at hq_ HK.out); have n2_ := Aside0.mk (below_at hq_ HB.out); clear hq_ HO_0 HK HB; have HO_0 := n0_; have HK := n1_; have HB := n2_; clear n0_ n1_ n2_; (try (have HP20 := Kd.R_putg HO_0.out (x6_1 : Int) (Go.bits .or .u8 (((bt hexTab (rd l1 x7_1)) * 16) % 256) (bt hexTab (rd l1 (ji6)))))))); refine store_event (t := 5) (p := 48) (v := ?vo_w21) (w1 := (wr.setCell ⟨go19, (x6_1 : Int).toNat, none⟩ (.int .u8 (Go.bits .or .u8 (((bt hexTab (rd l1 x7_1)) * 16) % 256) (bt hexTab (rd l1 (ji6))))))) ?hg ?ho ?hn ?hr ?_; (case ho => rfl); (case hg => rfl); (case hn => rfl); (case hr => first | (go_simp; done) | (go_simp; rfl)); intro w21 hw; have hg : wr.grownBy w21 (some go19) := (by rw [hw]; exact HP20.2); have hp_ : Kd.R (Kd.int .u8) 5 w21 w0.heap.size (fun k_ => (P0_ k_ ∨ w.heap.size ≤ k_)) (.slice (some ⟨go19, 0, none⟩) x0_1.length co19) y140 := (by rw [hw, Ny140.out]; exact HP20.1); clear HP20; replace HB := Aside0.mk ((by rw [hw]; exact below_set (HB.out) GB19.out : Below w0.heap.size w0 w21)); replace HK := Aside0.mk (Kept.of_grown (S := (fun k_ => P0_ k_)) hg (by repeat (first | (with_reducible first | exact HK.out | apply Kept.alloc | apply Kept.drewN | apply Kept.drew) | exact HK.out)) (fun k_ e_ => (HO_0.out.1 k_ e_))); replace HO_0 := Aside0.mk (hp_); clear hg hw hp_)); try go_wp2_with (first | ((with_reducible refine gate_store (t := 5) (p := 48) rfl ?_); (try (rw [drewN_self wr]; generalize hq_ : World.drewN wr _ = wr; have n0_ := Aside0.mk (Kd.R_at hq_ HO_0.out); have n1_ := Aside0.mk (kept_at hq_ HK.out); have n2_ := Aside0.mk (below_at hq_ HB.out); clear hq_ HO_0 HK HB; have HO_0 := n0_; have HK := n1_; have HB := n2_; clear n0_ n1_ n2_; (try (have HP20 := Kd.R_putg HO_0.out (x6_1 : Int) (Go.bits .or .u8 (((bt hexTab (rd l1 x7_1)) * 16) % 256) (bt hexTab (rd l1 (ji6)))))))); refine store_event (t := 5) (p := 48) (v := ?vo_w21) (w1 := (wr.setCell ⟨go19, (x6_1 : Int).toNat, none⟩ (.int .u8 (Go.bits .or .u8 (((bt hexTab (rd l1 x7_1)) * 16) % 256) (bt hexTab (rd l1 (ji6))))))) ?hg ?ho ?hn ?hr ?_; (case ho => rfl); (case hg => rfl); (case hn => rfl); (case hr => first | (go_simp; done) | (go_simp; rfl)); intro w21 hw; have hg : wr.grownBy w21 (some go19) := (by rw [hw]; exact HP20.2); have hp_ : Kd.R (Kd.int .u8) 5 w21 w0.heap.size (fun k_ => (P0_ k_ ∨ w.heap.size ≤ k_)) (.slice (some ⟨go19, 0, none⟩) x0_1.length co19) y140 := (by rw [hw, Ny140.out]; exact HP20.1); clear HP20; replace HB := Aside0.mk ((by rw [hw]; exact below_set (HB.out) GB19.out : Below w0.heap.size w0 w21)); replace HK := Aside0.mk (Kept.of_grown (S := (fun k_ => P0_ k_)) hg (by repeat (first | (with_reducible first | exact HK.out | apply Kept.alloc | apply Kept.drewN | apply Kept.drew) | exact HK.out)) (fun k_ e_ => (HO_0.out.1 k_ e_))); replace HO_0 := Aside0.mk (hp_); clear hg hw hp_)))
                                go_roundg k1
                                case measure => have := HK1.out; omega
                                case rel => exact ⟨(y140), (wrap64 (x6_1 + 1)), (wrap64 (x7_1 + 2)), (by first | rfl | (simp; done) | (simp [*]; done)), (by first | rfl | (simp; done) | (simp [*]; done)), H', ⟨by have := HK1.out; omega⟩, ⟨kdU_ HO_0.out⟩, ⟨by repeat (first | (with_reducible first | exact HK.out | apply Kept.alloc | apply Kept.drewN | apply Kept.drew) | exact HK.out)⟩, ⟨bel_⟩⟩
                              · rw [if_neg c18] at H
                                exact absurd H (by simp)
                            · rw [if_neg c17] at H
                              exact absurd H (by simp)
                      · rw [if_neg c13] at H
                        exact absurd H (by simp)
                    · rw [if_neg c12] at H
                      exact absurd H (by simp)
                  · rw [if_neg c10] at H
                    exact absurd H (by simp)
                · rw [if_neg c9] at H
                  exact absurd H (by simp)
              · rw [if_neg c8] at H
                exact absurd H (by simp)
            · rw [if_neg c7] at H
              exact absurd H (by simp)
          · rw [if_neg c5] at H
            exact absurd H (by simp)
        · rw [if_neg c4] at H
          exact absurd H (by simp)
      · rw [if_neg c3] at H
        have c3b0 : decide (x7_1 < (wrap64 ((l1.length : Int) - 1))) = false := decide_eq_false c3
        clear c3
        by_cases c22 : ((l1.length : Int) % 2) = 1
        · rw [if_pos c22] at H
          have c22b0 : (((l1.length : Int) % 2) == 1) = true := beq_iff_eq.mpr c22
          have c22b1 : (((l1.length : Int) % 2) != 1) = false := bne_eq_false_iff_eq.mpr c22
          clear c22
          by_cases c23 : 0 ≤ x7_1
          · rw [if_pos c23] at H
            have c23b0 : decide (0 ≤ x7_1) = true := decide_eq_true c23
            clear c23
            by_cases c24 : x7_1 < (l1.length : Int)
            · rw [if_pos c24] at H
              have c24b0 : decide (x7_1 < (l1.length : Int)) = true := decide_eq_true c24
              clear c24
              by_cases c25 : 0 ≤ (rd l1 x7_1)
              · rw [if_pos c25] at H
                have c25b0 : decide (0 ≤ (rd l1 x7_1)) = true := decide_eq_true c25
                clear c25
                by_cases c26 : (rd l1 x7_1) < 256
                · rw [if_pos c26] at H
                  have c26b0 : decide ((rd l1 x7_1) < 256) = true := decide_eq_true c26
                  clear c26
                  by_cases c28 : (bt hexTab (rd l1 x7_1)) > 15
                  · rw [if_pos c28] at H
                    exact absurd H (by simp)
                  · rw [if_neg c28] at H
                    have c28b0 : decide (15 < (bt hexTab (rd l1 x7_1))) = false := decide_eq_false c28
                    clear c28
                    simp only [Option.some.injEq, Prod.mk.injEq] at H
                    obtain ⟨rfl, rfl, rfl⟩ := H
                    have hE_ := pw_cell_below HB.out hE
                    have p141 : 0 ≤ (x7_1 : Int) := ofd_
                    have q141 : x7_1 < (l1.length : Int) := ofd_
                    obtain ⟨ad141, e141, hx141_0⟩ := Kd.at_int (Kd.C_kept_now HR1.out HK.out) x7_1 p141 q141
                    cases e141
                    replace p141 := eq_true p141
                    replace q141 := eq_true q141
                    have p27 : 0 ≤ ((rd l1 x7_1) : Int) := ofd_
                    have q27 : (rd l1 x7_1) < (256 : Int) := ofd_
                    have hx27 := bt_at hexTab (rd l1 x7_1)
                    replace p27 := eq_true p27
                    replace q27 := eq_true q27
                    go_wp2
                    repeat (go_quiet (fail); try go_wp2)
                    go_ret2
                    exact ⟨rfl_, by (with_reducible repeat (first | apply Kd.R_alloc | apply Kd.R_drewN | apply Kd.R_drew)); exact HO_0.out, bel_, by repeat (first | (with_reducible first | exact HK.out | apply Kept.alloc | apply Kept.drewN | apply Kept.drew) | exact HK.out)⟩
                · rw [if_neg c26] at H
                  exact absurd H (by simp)
              · rw [if_neg c25] at H
                exact absurd H (by simp)
            · rw [if_neg c24] at H
              exact absurd H (by simp)
          · rw [if_neg c23] at H
            exact absurd H (by simp)
        · rw [if_neg c22] at H
          have c22b0 : (((l1.length : Int) % 2) == 1) = false := beq_eq_false_iff_ne.mpr c22
          have c22b1 : (((l1.length : Int) % 2) != 1) = true := bne_iff_ne.mpr c22
          simp only [Option.some.injEq, Prod.mk.injEq] at H
          obtain ⟨rfl, rfl, rfl⟩ := H
          go_wp2
          repeat (go_quiet (fail); try go_wp2)
          go_ret2
          exact ⟨rfl_, by (with_reducible repeat (first | apply Kd.R_alloc | apply Kd.R_drewN | apply Kd.R_drew)); exact HO_0.out, bel_, by repeat (first | (with_reducible first | exact HK.out | apply Kept.alloc | apply Kept.drewN | apply Kept.drew) | exact HK.out)⟩
theorem hex_Decode.callsS (k : Nat) (P0_ : Nat → Prop) (u9000_ : Value) (l0 : List Int) (A1 : Option Addr) (c1 : Nat) (s : ByteArray) (r1 : Int) (r2 : Int) (r3 : List Int) (w0 w : World) (hB : Below w0.heap.size w0 w) (ho0 : Kd.R (Kd.int .u8) 5 w w0.heap.size P0_ u9000_ l0) (hr1 : ∀ W_, Kept w W_ (fun k_ => P0_ k_) → Kd.C (Kd.int .u8) W_ A1 s.size (bytesOf s)) (hc1 : s.size ≤ c1) (ea_ : Addr) (hE : w0.cell? ⟨1, 0, none⟩ = some (EVp ea_)) (h : hex_Decode.f k l0 (bytesOf s) = some (r1, r2, r3)) :
    Calls Tryd.prog 36 #[u9000_, .slice A1 s.size c1] w fun e w' => e = .returned (.tuple #[.int .i64 r1, errV ea_ r2]) ∧ Kd.R (Kd.int .u8) 5 w' w0.heap.size (fun k_ => (P0_ k_ ∨ w.heap.size ≤ k_)) u9000_ r3 ∧ Below w0.heap.size w0 w' ∧ Kept w w' (fun k_ => P0_ k_) := by
  have := hex_Decode.calls k P0_ u9000_ l0 A1 c1 (bytesOf s) r1 r2 r3 w0 w hB ho0 (by rw [bytesOf_length]; exact hr1) (by rw [bytesOf_length]; exact hc1) ea_ hE h
  rwa [bytesOf_length] at this
end
end Go.Proofs.YtflcbanemolkfaaDoor.B
