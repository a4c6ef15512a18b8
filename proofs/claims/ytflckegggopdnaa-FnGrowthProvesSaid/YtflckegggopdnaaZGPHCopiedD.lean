/- What the Go function loop.example/belfry/impl.copied[loop.example/belfry/impl.Digest] does: the list in new memory. Condition: at most 2^43 elements. -/
import Derived.Test.YtflckegggopdnaaZGPQCopy
namespace Go.Proofs.Ytflckegggopdnaa.B
open Go.RowKit Go.Proofs.YtflckegggopdnaaW.PrintWords Go.Proofs.YtflckegggopdnaaW.PrintLast Go.Proofs.YtflckegggopdnaaW.PrintMore
set_option linter.unusedVariables false
set_option linter.unusedSimpArgs false
def impl_Digest.f (l0 : List S29) : Option (List S29) := if (l0.length : Int) ≤ 8796093022208 then some l0 else none
set_option maxHeartbeats 8000000 in
set_option maxRecDepth 100000 in
theorem impl_Digest.calls (A0 : Option Addr) (c0 : Nat) (l0 : List S29) (r : List S29) (w : World) (hr0 : Kd.C k29 w A0 l0.length l0) (hc0 : l0.length ≤ c0) (h : impl_Digest.f l0 = some r) :
    Calls Try.prog 65 #[.slice A0 l0.length c0] w fun e w' => ∃ v0_ : Value, e = .returned (v0_) ∧ Kd.R k29 29 w' w.heap.size (fun _ => True) v0_ r ∧ Below w.heap.size w w' := by
  have HR0 := Aside0.mk hr0
  clear hr0
  have HB := Aside0.mk (Below.refl w.heap.size w)
  unfold impl_Digest.f at h
  by_cases c1 : (l0.length : Int) ≤ 8796093022208
  · rw [if_pos c1] at h
    obtain rfl := Option.some.inj h
    by_cases c2 : (l0.length : Int) = 0
    · have c2b0 : ((l0.length : Int) == 0) = true := beq_iff_eq.mpr c2
      obtain rfl : l0 = [] := List.eq_nil_of_length_eq_zero (by omega)
      go_enter Try.func65, Try.ntmps65
      go_wp2
      go_ret
      exact ⟨_, rfl, Kd.R_nil _ _ _ _ _, bel_⟩
    · have c2b0 : ((l0.length : Int) == 0) = false := beq_eq_false_iff_ne.mpr c2
      have hp : 0 < l0.length := by omega
      go_enter Try.func65, Try.ntmps65
      go_wp2_with (first
        | ((with_reducible refine gate_dst (N := 9) rfl ?_); refine Kd.R_make k29 _ 29 rfl (N := 9) rfl 49 _ _ rfl (l0.length : Int) rfl rfl Try.underlying49 (.agg #[(.int .u64 0), (.int .u64 0), (.int .u64 0), (.int .u64 0)]) 32 info29 rfl (by decide) (by omega) z29 (ok := fun _ => True) (okp := fun _ => True) (k29_mkM _ _ _ z29) (fun _ hk => hk) trivial (by omega) (Nat.le_trans (Nat.mul_le_mul_right _ (by omega : (l0.length : Int).toNat ≤ 8796093022208)) (by omega)) (Below.refl _ _) (Nat.le_refl _) ?_; intro v244 w4 ho5 hb hg_ hnew_; clear hg_ hnew_; have HO := Aside0.mk (Kd.R_lower ho5 (below_size bel_)); have HR1 := Aside0.mk (Kd.C_below HR0.out HB.out); have HR2 := Aside0.mk (Kd.C_below HR0.out (stepB_ hb).out); replace HB := stepB_ hb; clear hb ho5 HR1)
        | ((with_reducible refine gate_dst (N := 12) rfl ?_); refine R_copy k29 (w0 := w) w.heap.size 29 rfl (.tmp 10) (.tmp 11) 49 49 rfl Try.underlying49 (by rw [show ((Try.prog.info? 29).map (·.size)) = some 4 from by kernel_rfl]; rfl) (by decide) (fun _ _ _ _ _ _ h_ => h_) (v := v244) (A := A0) (c := c0) (ys := l0) rfl rfl HO.out HR2.out (by simp) hp HB.out ?_; intro w5 ho6 hb6; clear HO HR2 HB; have HO := Aside0.mk ho6; have HB := Aside0.mk hb6; clear ho6 hb6))
      go_ret
      exact ⟨_, rfl, HO.out, HB.out⟩
  · rw [if_neg c1] at h
    exact absurd h (by simp)
end Go.Proofs.Ytflckegggopdnaa.B
