/- What the Go functions loop.example/belfry/spec.DrawTreePeaks do is what the Lean functions .f of their names here say; condition: .f gives an answer. (Written by the session's program pp.py over the kit's print; Lean checks it.) -/
import Derived.Test.YtemfciflhbhobaaK
import Derived.Test.YtemfciflhbhobaaM
import Derived.Test.YtemfciflhbhobaaFSpecL2RdSome
import Derived.Test.YtemfciflhbhobaaGL11
import Derived.Test.YtemfciflhbhobaaHL2Open
namespace Go.Proofs.Ytemfciflhbhobaa.B
open Go.RowKit Go.Proofs.YtemfciflhbhobaaW.PrintWords Go.Proofs.YtemfciflhbhobaaW.PrintLast Go.Proofs.YtemfciflhbhobaaW.PrintMore
attribute [local go_sem] max2_int min2_int max_two min_two max_three min_three max_four min_four   -- for this text's walks alone
set_option linter.unusedVariables false
set_option linter.unusedSimpArgs false

section
/-! ### spec_DrawTreePeaks: function 66 -/
def spec_DrawTreePeaks.f (k : Nat) (l0 : List Int) : Option (List ByteArray) := (spec_l2Open.f l0).bind fun bt1440 => ((spec_l2Rd_some.f k bt1440.1 bt1440.2).bind fun bt1443 => (some bt1443.1))
theorem spec_DrawTreePeaks.mono : ∀ a0 k, LeO (spec_DrawTreePeaks.f k a0) (spec_DrawTreePeaks.f (k + 1) a0) := by
  intro a0 k
  unfold spec_DrawTreePeaks.f
  repeat' first | (with_reducible first | exact spec_l2Rd_some.mono _ _ _ | exact LeO.refl _ | exact LeO.none _ | refine LeO.ite ?_ ?_ | refine LeO.bind ?_ (fun _ => ?_)) | exact LeO.none _ | refine LeO.ite ?_ ?_ | refine LeO.bind ?_ (fun _ => ?_)
set_option maxHeartbeats 8000000 in
set_option maxRecDepth 100000 in
theorem spec_DrawTreePeaks.calls (k : Nat) (A0 : Option Addr) (c0 : Nat) (l0 : List Int) (r : List ByteArray) (w : World) (hr0 : Kd.C (Kd.int .u8) w A0 l0.length l0) (hc0 : l0.length ≤ c0) (h : spec_DrawTreePeaks.f k l0 = some r) :
    Calls Try.prog 66 #[.slice A0 l0.length c0] w fun e w' => ∃ v0_ : Value, e = .returned (v0_) ∧ Kd.R Kd.string 9 w' w.heap.size (fun _ => True) v0_ r ∧ Below w.heap.size w w' := by
  have HR0 := Aside0.mk hr0
  have HC0 := Aside0.mk hc0
  clear hr0 hc0
  have HB := Aside0.mk (Below.refl w.heap.size w)
  have H : ((spec_l2Open.f l0).bind fun bt1440 => ((spec_l2Rd_some.f k bt1440.1 bt1440.2).bind fun bt1443 => (some bt1443.1))) = some r := h
  clear h
  obtain ⟨⟨t1440, t1441⟩, A2, H⟩ := bnd_ H
  dsimp only at H
  obtain ⟨⟨t1443, t1446⟩, A3, H⟩ := bnd_ H
  dsimp only at H
  obtain rfl := Option.some.inj H
  go_enter Try.func66, Try.ntmps66
  go_wp2_with (first | ((with_reducible refine gate_callee (f := 106) rfl ?_); refine goL_ (some 5) Try.func106 #[.slice A0 l0.length c0] ?_; (with_reducible refine (spec_l2Open.calls _ _ l0 t1440 t1441 w _ ?side1 ?side2 ?side3 A2.out).mono ?_); (case side1 => exact bel_); (case side2 => exact HR0.out); (case side3 => exact HC0.out); rintro e w4 ⟨g1442, g2_, rfl, hp_, hi, hb, hb2⟩; refine ⟨_, rfl, ?_⟩; have HP := Aside0.mk hp_; clear hp_; replace HB := Aside0.mk (hb); have HI1442 := Aside0.mk (hi); (try clear hb); (try clear hb2); (try clear hk); (try clear hi)) | ((with_reducible refine gate_callee (f := 107) rfl ?_); refine goL_ (some 7) Try.func107 #[.pointer (some ⟨g2_, 0, none⟩)] ?_; (with_reducible refine (spec_l2Rd_some.calls k g1442 t1440 t1441 t1443 t1446 w _ g2_ (blkU_ HP.out) ?side1 ?side2 A3.out).mono ?_); (case side1 => repeat (first | (with_reducible first | exact HI1442.out | apply IsS156.alloc | apply IsS156.drewN | apply IsS156.drew | apply IsS156.set_1) | exact HI1442.out)); (case side2 => repeat (first | (with_reducible first | exact HB.out | apply below_alloc | apply pw_below_drewN | apply below_drew1 | refine below_set ?_ (IsS156.ge HI1442.out)) | exact HB.out)); rintro e w5 ⟨v1444, rfl, ho0, hi, hb, hk⟩; refine ⟨_, rfl, ?_⟩; have HO1445 := Aside0.mk (Kd.R_lower ho0 (below_size (by repeat (first | (with_reducible first | exact HB.out | apply below_alloc | apply pw_below_drewN | apply below_drew1 | refine below_set ?_ (IsS156.ge HI1442.out)) | exact HB.out)))); replace HB := Aside0.mk (hb); replace HI1442 := Aside0.mk (hi); (try clear hb); (try clear hb2); (try clear hk); (try clear hi); (try clear ho0)))
  go_ret
  exact ⟨_, rfl_, by (with_reducible repeat (first | apply Kd.R_alloc | apply Kd.R_drewN | apply Kd.R_drew)); exact HO1445.out, by repeat (first | (with_reducible first | exact HB.out | apply below_alloc | apply pw_below_drewN | apply below_drew1 | refine below_set ?_ (IsS156.ge HI1442.out)) | exact HB.out)⟩

end
end Go.Proofs.Ytemfciflhbhobaa.B
