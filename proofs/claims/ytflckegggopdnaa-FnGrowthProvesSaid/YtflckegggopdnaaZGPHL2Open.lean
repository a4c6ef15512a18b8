/- What the Go function spec.l2Open does: a reader in new memory that holds a new reader. No condition. -/
import Derived.Test.YtflckegggopdnaaZGPM
import Derived.Test.YtflckegggopdnaaZGPGL11
namespace Go.Proofs.Ytflckegggopdnaa.B
open Go.RowKit Go.Proofs.YtflckegggopdnaaW.PrintWords Go.Proofs.YtflckegggopdnaaW.PrintLast Go.Proofs.YtflckegggopdnaaW.PrintMore
set_option linter.unusedVariables false
set_option linter.unusedSimpArgs false
theorem keepP_ {w W : World} {g g2 : Nat} {o : Obj} (hP : w.heap[g2]? = some o) (hne : (⟨g2, 0, none⟩ : Addr).block ≠ g) (k : KeepBut w W g none := by repeat (first | (with_reducible first | exact HK.out | apply KeepBut.set_ | apply keep_drewN | apply keep_drew | apply keep_alloc) | exact HK.out)) : W.heap[g2]? = some o := (k.2 g2 (blk_lt hP) hne (by simp)).trans hP
theorem wr_ne {w0 w : World} {g2 g : Nat} {T : TypeId} {cs : Array Value} {f0 : List Int} {f1 : Int} (hP : w.heap[g2]? = some (.cells cs T (0, 0))) (hT : T ≠ 137) (hI : IsS137 w0 w g f0 f1) : (⟨g2, 0, none⟩ : Addr).block ≠ g := fun e => by obtain ⟨A, c, h, _⟩ := hI; rw [← e, show (⟨g2, 0, none⟩ : Addr).block = g2 from rfl, hP] at h; simp at h; exact hT h.2
def spec_l2Open.f (l0 : List Int) : Option (List Int × Int) := spec_l1Open.f l0
set_option maxHeartbeats 8000000 in
set_option maxRecDepth 100000 in
theorem spec_l2Open.calls (A0 : Option Addr) (c0 : Nat) (l0 : List Int) (r1 : List Int) (r2 : Int) (w0 w : World) (hB : Below w0.heap.size w0 w) (hr0 : Kd.C (Kd.int .u8) w0 A0 l0.length l0) (hc0 : l0.length ≤ c0) (h : spec_l2Open.f l0 = some (r1, r2)) :
    Calls Try.prog 102 #[.slice A0 l0.length c0] w fun e w' => ∃ g_ g2_ : Nat, e = .returned (.pointer (some ⟨g2_, 0, none⟩)) ∧ w'.heap[g2_]? = some (.cells #[.pointer (some ⟨g_, 0, none⟩)] 94 (0, 0)) ∧ IsS137 w0 w' g_ r1 r2 ∧ Below w0.heap.size w0 w' ∧ Below w.heap.size w w' := by
  have h : spec_l1Open.f l0 = some (r1, r2) := h
  have hu := Try.underlying94
  have HB := Aside0.mk (Below.refl w.heap.size w)
  go_enter Try.func102, Try.ntmps102
  go_wp2_with (first
    | ((with_reducible refine gate_callee (f := 126) rfl ?_); refine goL_ (some 4) Try.func126 #[.slice A0 l0.length c0] ?_; (with_reducible refine (spec_l1Open.calls _ _ l0 r1 r2 w0 _ hB hr0 hc0 h).mono ?_); rintro e w4 ⟨g1, rfl, hi, hb, hb2⟩; refine ⟨_, rfl, ?_⟩; have HI := Aside0.mk hi; have HBW := Aside0.mk hb; replace HB := Aside0.mk hb2; clear hi hb hb2)
    | ((with_reducible refine gate_dst (N := 6) rfl ?_); refine boxE_ (cs := #[.pointer (some ⟨g1, 0, none⟩)]) (t := 94) ?_; intro gb hg w5 hbox hb; have HP := Aside0.mk hbox; replace HI := Aside0.mk (IsS137.below HI.out hb); replace HBW := Aside0.mk (below_step HBW.out hb); replace HB := stepB_ hb; clear hb hbox hg))
  go_ret
  exact ⟨g1, gb, rfl, HP.out, HI.out, HBW.out, HB.out⟩
end Go.Proofs.Ytflckegggopdnaa.B
