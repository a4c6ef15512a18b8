/- What the Go functions loop.example/belfry/laws.toGrowth do is what the Lean functions .f of their names here say; condition: .f gives an answer. (Written by the session's program pp.py over the kit's print; Lean checks it.) -/
import Derived.Test.YtflckegggopdnaaZCEK
import Derived.Test.YtflckegggopdnaaZCEM
import Derived.Test.YtflckegggopdnaaZCEGLawD1
import Derived.Test.YtflckegggopdnaaZCEGPoint1
namespace Go.Proofs.Ytflckegggopdnaa.B
open Go.RowKit Go.Proofs.YtflckegggopdnaaW.PrintWords Go.Proofs.YtflckegggopdnaaW.PrintLast Go.Proofs.YtflckegggopdnaaW.PrintMore
attribute [local go_sem] max2_int min2_int max_two min_two max_three min_three max_four min_four
set_option linter.unusedVariables false
set_option linter.unusedSimpArgs false
section
def laws_toGrowth.f (k : Nat) (a0_0 : Int) (a0_1 : Int) (a0_2 : Int) (a0_3 : Int) (a0_4 : Int) (l0_5 : List (S24)) : Option (Int × Int × Int × Int × Int × (List (S29))) := (laws_toPoint.f a0_0 a0_1 a0_2 a0_3 a0_4).bind fun bt255 => ((laws_toDigestS.f k l0_5).bind fun t260 => (some (bt255.1, bt255.2.1, bt255.2.2.1, bt255.2.2.2.1, bt255.2.2.2.2, t260)))
set_option maxHeartbeats 8000000 in
set_option maxRecDepth 100000 in
theorem laws_toGrowth.calls (k : Nat) (a0_0 : Int) (a0_1 : Int) (a0_2 : Int) (a0_3 : Int) (a0_4 : Int) (A0_5 : Option Addr) (c0_5 : Nat) (l0_5 : List (S24)) (r1 : Int) (r2 : Int) (r3 : Int) (r4 : Int) (r5 : Int) (r6 : List (S29)) (w : World) (hr0_5 : Kd.C k24 w A0_5 l0_5.length l0_5) (hc0_5 : l0_5.length ≤ c0_5) (h : laws_toGrowth.f k a0_0 a0_1 a0_2 a0_3 a0_4 l0_5 = some (r1, r2, r3, r4, r5, r6)) :
    Calls Try.prog 20 #[.agg #[.int .i64 a0_0, .int .u64 a0_1, .int .u64 a0_2, .int .u64 a0_3, .int .u64 a0_4, .slice A0_5 l0_5.length c0_5]] w fun e w' => ∃ v5_ : Value, e = .returned (.agg #[.int .i64 r1, .int .u64 r2, .int .u64 r3, .int .u64 r4, .int .u64 r5, v5_]) ∧ Kd.R k29 29 w' w.heap.size (fun _ => True) v5_ r6 ∧ Below w.heap.size w w' := by
  have hu42 := Try.underlying42
  have hu51 := Try.underlying51
  have hu26 := Try.underlying26
  have hu31 := Try.underlying31
  have HR0_5 := Aside0.mk hr0_5
  have HC0_5 := Aside0.mk hc0_5
  clear hr0_5 hc0_5
  have HB := Aside0.mk (Below.refl w.heap.size w)
  have H : ((laws_toPoint.f a0_0 a0_1 a0_2 a0_3 a0_4).bind fun bt255 => ((laws_toDigestS.f k l0_5).bind fun t260 => (some (bt255.1, bt255.2.1, bt255.2.2.1, bt255.2.2.2.1, bt255.2.2.2.2, t260)))) = some (r1, r2, r3, r4, r5, r6) := h
  clear h
  obtain ⟨⟨t255, t256, t257, t258, t259⟩, A2, H⟩ := bnd_ H
  dsimp only at H
  obtain ⟨t260, A3, H⟩ := bnd_ H
  simp only [Option.some.injEq, Prod.mk.injEq] at H
  obtain ⟨rfl, rfl, rfl, rfl, rfl, rfl⟩ := H
  go_enter Try.func20, Try.ntmps20
  go_wp2_with (first | ((with_reducible refine gate_dst (N := 1) rfl ?_); refine boxE_ (cs := #[.int .i64 a0_0, .int .u64 a0_1, .int .u64 a0_2, .int .u64 a0_3, .int .u64 a0_4, .slice A0_5 l0_5.length c0_5]) (t := 42) ?_; intro gb252 hg w4 hbox hb; have BK252 := Aside0.mk (hbox); have GW252 := sizeB_ hg; have GE252 := sizeB_ hg; replace HB := stepB_ hb; clear hb hbox hg) | ((with_reducible refine gate_dst (N := 2) rfl ?_); refine boxE_ (cs := #[.int .i64 0, .int .u64 0, .int .u64 0, .int .u64 0, .int .u64 0, .slice none 0 0]) (t := 51) ?_; intro gb253 hg w5 hbox hb; have BK253 := Aside0.mk (hbox); have GW253 := sizeB_ hg; have GE253 := sizeB_ hg; replace HB := stepB_ hb; have NB252_253 := neL_ BK252.out hg; have NB253_252 := neG_ BK252.out hg; replace BK252 := blkBel_ BK252.out hb; clear hb hbox hg) | ((with_reducible refine gate_dst (N := 3) rfl ?_); refine boxE_ (cs := #[.int .i64 0, .int .u64 0, .int .u64 0, .int .u64 0, .int .u64 0, .slice none 0 0]) (t := 51) ?_; intro gb254 hg w6 hbox hb; have BK254 := Aside0.mk (hbox); have GW254 := sizeB_ hg; have GE254 := sizeB_ hg; replace HB := stepB_ hb; have NB252_254 := neL_ BK252.out hg; have NB254_252 := neG_ BK252.out hg; replace BK252 := blkBel_ BK252.out hb; have NB253_254 := neL_ BK253.out hg; have NB254_253 := neG_ BK253.out hg; replace BK253 := blkBel_ BK253.out hb; clear hb hbox hg; have hnb7 := NB252_253.out; have hnc7 := NB253_252.out; have hnb8 := NB252_254.out; have hnc8 := NB254_252.out; obtain ⟨hcz9_0, hcz9_1, hcz9_2, hcz9_3, hcz9_4, hcz9_5, hfz9_0, hfz9_1, hfz9_2, hfz9_3, hfz9_4, hfz9_5⟩ := cz6_ BK252.out) | ((with_reducible refine gate_callee (f := 12) rfl ?_); refine goL_ (some 6) Try.func12 #[.agg #[.int .i64 a0_0, .int .u64 a0_1, .int .u64 a0_2, .int .u64 a0_3, .int .u64 a0_4]] ?_; (with_reducible refine (laws_toPoint.calls a0_0 a0_1 a0_2 a0_3 a0_4 t255 t256 t257 t258 t259 _ A2.out).mono ?_); rintro e w10 ⟨rfl, hb⟩; refine ⟨_, rfl, ?_⟩; replace BK252 := blkBel_ BK252.out hb; replace BK253 := blkBel_ BK253.out hb; replace BK254 := blkBel_ BK254.out hb; replace HB := stepB_ hb; (try clear hb); have hnb11 := NB254_253.out; have hnc11 := NB253_254.out; obtain ⟨hcz12_0, hcz12_1, hcz12_2, hcz12_3, hcz12_4, hcz12_5, hfz12_0, hfz12_1, hfz12_2, hfz12_3, hfz12_4, hfz12_5⟩ := cz6_ BK254.out; obtain ⟨hcz13_0, hcz13_1, hcz13_2, hcz13_3, hcz13_4, hcz13_5, hfz13_0, hfz13_1, hfz13_2, hfz13_3, hfz13_4, hfz13_5⟩ := cz6_ BK252.out) | ((with_reducible refine gate_callee (f := 21) rfl ?_); refine goL_ (some 10) Try.func21 #[.slice A0_5 l0_5.length c0_5] ?_; (with_reducible refine (laws_toDigestS.calls k _ _ l0_5 t260 _ ?side1 ?side2 A3.out).mono ?_); (case side1 => exact Kd.C_below HR0_5.out bel_); (case side2 => exact HC0_5.out); rintro e w14 ⟨v261, rfl, ho0, hb⟩; refine ⟨_, rfl, ?_⟩; have HO262 := Aside0.mk (Kd.R_lower ho0 (below_size bel_)); replace BK252 := blkBel_ BK252.out hb; replace BK253 := blkBel_ BK253.out hb; replace BK254 := blkPB_ (cs := #[.int .i64 t255, .int .u64 t256, .int .u64 t257, .int .u64 t258, .int .u64 t259, .slice none 0 0]) BK254.out hb; replace HB := stepB_ hb; (try clear hb); (try clear ho0); obtain ⟨Ao15, co15, eo15⟩ := Kd.R_slice HO262.out; subst eo15; obtain ⟨hcz16_0, hcz16_1, hcz16_2, hcz16_3, hcz16_4, hcz16_5, hfz16_0, hfz16_1, hfz16_2, hfz16_3, hfz16_4, hfz16_5⟩ := cz6_ BK254.out; obtain ⟨hcz17_0, hcz17_1, hcz17_2, hcz17_3, hcz17_4, hcz17_5, hfz17_0, hfz17_1, hfz17_2, hfz17_3, hfz17_4, hfz17_5⟩ := cz6_ BK253.out))
  refine bodyPost_ret (results_cell_row rfl _ _ gb253 51 #[.int .i64 t255, .int .u64 t256, .int .u64 t257, .int .u64 t258, .int .u64 t259, .slice Ao15 t260.length co15] (0, 0) _ rfl (blkF_ BK253.out) Try.underlying51 rfl (by kernel_rfl)) rfl ?_
  exact ⟨_, rfl_, by (with_reducible repeat (first | apply Kd.R_alloc | apply Kd.R_drewN | apply Kd.R_drew)); exact Kd.R_mono (Kd.R_far (p := ⟨gb253, 5, none⟩) (Kd.R_far (p := ⟨gb253, 4, none⟩) (Kd.R_far (p := ⟨gb253, 3, none⟩) (Kd.R_far (p := ⟨gb253, 2, none⟩) (Kd.R_far (p := ⟨gb253, 1, none⟩) (Kd.R_far (p := ⟨gb253, 0, none⟩) (Kd.R_far (p := ⟨gb254, 5, none⟩) (Kd.R_types (Kd.R_types HO262.out BK254.out (by decide)) BK253.out (by decide)) (fun _ hk => hk.1.2) (.slice Ao15 t260.length co15)) (fun _ hk => hk.2) (.int .i64 t255)) (fun _ hk => hk.2) (.int .u64 t256)) (fun _ hk => hk.2) (.int .u64 t257)) (fun _ hk => hk.2) (.int .u64 t258)) (fun _ hk => hk.2) (.int .u64 t259)) (fun _ hk => hk.2) (.slice Ao15 t260.length co15)) (fun _ hk => trivial), bel_⟩
end
end Go.Proofs.Ytflckegggopdnaa.B
