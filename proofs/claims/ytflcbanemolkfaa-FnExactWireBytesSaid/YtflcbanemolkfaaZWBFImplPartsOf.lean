/- What the Go functions loop.example/belfry/impl.partsOf do is what the Lean functions .f of their names here say; condition: .f gives an answer. (Written by the session's program pp.py over the kit's print; Lean checks it.) -/
import Derived.Test.YtflcbanemolkfaaZWBK
import Derived.Test.YtflcbanemolkfaaZWBM
import Derived.Test.YtflcbanemolkfaaZWBGSplit1
namespace Go.Proofs.Ytflcbanemolkfaa.B
open Go.RowKit Go.Proofs.YtflcbanemolkfaaW.PrintWords Go.Proofs.YtflcbanemolkfaaW.PrintLast Go.Proofs.YtflcbanemolkfaaW.PrintMore
attribute [local go_sem] max2_int min2_int max_two min_two max_three min_three max_four min_four
set_option linter.unusedVariables false
set_option linter.unusedSimpArgs false
section
def impl_partsOf.f (a0 : Int) : Option (ByteArray) := (impl_in.f a0 1 8).bind fun t222 => (if t222 = true then ((some (([(⟨#[]⟩ : ByteArray), (⟨#[115]⟩ : ByteArray), (⟨#[115, 122, 114]⟩ : ByteArray), (⟨#[115, 122, 114]⟩ : ByteArray), (⟨#[102, 122]⟩ : ByteArray), (⟨#[102, 122, 112]⟩ : ByteArray), (⟨#[115, 122, 114]⟩ : ByteArray), (⟨#[102, 99]⟩ : ByteArray), (⟨#[102, 108]⟩ : ByteArray)] : List ByteArray) : List ByteArray)).bind fun y223 => (if 0 ≤ a0 then (if a0 < (y223.length : Int) then (some (rdOf ByteArray.empty y223 a0)) else (none)) else (none))) else (some (⟨#[]⟩ : ByteArray)))
set_option maxHeartbeats 8000000 in
set_option maxRecDepth 100000 in
theorem impl_partsOf.calls (a0 : Int) (r : ByteArray) (w : World) (h : impl_partsOf.f a0 = some r) :
    Calls Try.prog 40 #[.int .i64 a0] w fun e w' => e = .returned (.string r) ∧ Below w.heap.size w w' := by
  have HB := Aside0.mk (Below.refl w.heap.size w)
  have H : ((impl_in.f a0 1 8).bind fun t222 => (if t222 = true then ((some (([(⟨#[]⟩ : ByteArray), (⟨#[115]⟩ : ByteArray), (⟨#[115, 122, 114]⟩ : ByteArray), (⟨#[115, 122, 114]⟩ : ByteArray), (⟨#[102, 122]⟩ : ByteArray), (⟨#[102, 122, 112]⟩ : ByteArray), (⟨#[115, 122, 114]⟩ : ByteArray), (⟨#[102, 99]⟩ : ByteArray), (⟨#[102, 108]⟩ : ByteArray)] : List ByteArray) : List ByteArray)).bind fun y223 => (if 0 ≤ a0 then (if a0 < (y223.length : Int) then (some (rdOf ByteArray.empty y223 a0)) else (none)) else (none))) else (some (⟨#[]⟩ : ByteArray)))) = some r := h
  clear h
  obtain ⟨t222, A2, H⟩ := bnd_ H
  by_cases c3 : t222 = true
  · subst c3
    rw [if_pos rfl] at H
    obtain ⟨y223, hy223⟩ : ∃ y_ : List ByteArray, y_ = (([(⟨#[]⟩ : ByteArray), (⟨#[115]⟩ : ByteArray), (⟨#[115, 122, 114]⟩ : ByteArray), (⟨#[115, 122, 114]⟩ : ByteArray), (⟨#[102, 122]⟩ : ByteArray), (⟨#[102, 122, 112]⟩ : ByteArray), (⟨#[115, 122, 114]⟩ : ByteArray), (⟨#[102, 99]⟩ : ByteArray), (⟨#[102, 108]⟩ : ByteArray)] : List ByteArray)) := ⟨_, rfl⟩
    replace H : (if 0 ≤ a0 then (if a0 < (y223.length : Int) then (some (rdOf ByteArray.empty y223 a0)) else (none)) else (none)) = some r := by first | (rw [hy223]; with_reducible exact H) | (have H2_ := (Option.bind_some _ _).symm.trans H; rw [hy223]; with_reducible exact H2_) | (have H2_ := (Option.bind_some _ _).symm.trans H; with_reducible exact H2_) | with_reducible exact H | (rw [hy223]; exact H) | exact H
    have Ny223 := Aside0.mk hy223
    clear hy223
    by_cases c4 : 0 ≤ a0
    · rw [if_pos c4] at H
      have c4b0 : decide (0 ≤ a0) = true := decide_eq_true c4
      clear c4
      by_cases c5 : a0 < (y223.length : Int)
      · rw [if_pos c5] at H
        have c5b0 : decide (a0 < (y223.length : Int)) = true := decide_eq_true c5
        clear c5
        obtain rfl := Option.some.inj H
        go_enter Try.func40, Try.ntmps40
        go_wp2_with (first | ((with_reducible refine gate_callee (f := 28) rfl ?_); refine goL_ (some 4) Try.func28 #[.int .i64 a0, .int .i64 1, .int .i64 8] ?_; (with_reducible refine (impl_in.calls a0 1 8 true _ A2.out).mono ?_); rintro e w' ⟨rfl, ⟨nd, rfl⟩⟩; refine ⟨_, rfl, ?_⟩) | ((with_reducible refine gate_dst (N := 6) rfl ?_); refine Kd.R_lit Kd.string _ 9 ?hg (N := 6) ?hd (xs := ([(⟨#[]⟩ : ByteArray), (⟨#[115]⟩ : ByteArray), (⟨#[115, 122, 114]⟩ : ByteArray), (⟨#[115, 122, 114]⟩ : ByteArray), (⟨#[102, 122]⟩ : ByteArray), (⟨#[102, 122, 112]⟩ : ByteArray), (⟨#[115, 122, 114]⟩ : ByteArray), (⟨#[102, 99]⟩ : ByteArray), (⟨#[102, 108]⟩ : ByteArray)] : List ByteArray)) (inner := [.string (⟨#[]⟩ : ByteArray), .string (⟨#[115]⟩ : ByteArray), .string (⟨#[115, 122, 114]⟩ : ByteArray), .string (⟨#[115, 122, 114]⟩ : ByteArray), .string (⟨#[102, 122]⟩ : ByteArray), .string (⟨#[102, 122, 112]⟩ : ByteArray), .string (⟨#[115, 122, 114]⟩ : ByteArray), .string (⟨#[102, 99]⟩ : ByteArray), .string (⟨#[102, 108]⟩ : ByteArray)]) (ok := fun _ => True) (okp := fun _ => True) ?hr ?hp (fun _ hk => hk) trivial (Below.refl _ _) (Nat.le_refl _) (by simp) ?_; (case hd => rfl); (case hg => rfl); (case hr => first | (go_simp; done) | (go_simp; rfl)); (case hp => exact (Reps.one (show Kd.M Kd.string _ _ _ (⟨#[]⟩ : ByteArray) [.string (⟨#[]⟩ : ByteArray)] from rfl) (Reps.one (show Kd.M Kd.string _ _ _ (⟨#[115]⟩ : ByteArray) [.string (⟨#[115]⟩ : ByteArray)] from rfl) (Reps.one (show Kd.M Kd.string _ _ _ (⟨#[115, 122, 114]⟩ : ByteArray) [.string (⟨#[115, 122, 114]⟩ : ByteArray)] from rfl) (Reps.one (show Kd.M Kd.string _ _ _ (⟨#[115, 122, 114]⟩ : ByteArray) [.string (⟨#[115, 122, 114]⟩ : ByteArray)] from rfl) (Reps.one (show Kd.M Kd.string _ _ _ (⟨#[102, 122]⟩ : ByteArray) [.string (⟨#[102, 122]⟩ : ByteArray)] from rfl) (Reps.one (show Kd.M Kd.string _ _ _ (⟨#[102, 122, 112]⟩ : ByteArray) [.string (⟨#[102, 122, 112]⟩ : ByteArray)] from rfl) (Reps.one (show Kd.M Kd.string _ _ _ (⟨#[115, 122, 114]⟩ : ByteArray) [.string (⟨#[115, 122, 114]⟩ : ByteArray)] from rfl) (Reps.one (show Kd.M Kd.string _ _ _ (⟨#[102, 99]⟩ : ByteArray) [.string (⟨#[102, 99]⟩ : ByteArray)] from rfl) (Reps.one (show Kd.M Kd.string _ _ _ (⟨#[102, 108]⟩ : ByteArray) [.string (⟨#[102, 108]⟩ : ByteArray)] from rfl) (Reps.none _ _))))))))))); intro v224 w6 ho7 hb hg_ hnew_; clear hg_ hnew_; (first | rw [← Ny223.out] at ho7 | (simp only [Int.reduceToNat] at ho7; rw [← Ny223.out] at ho7)); have HO225 := Aside0.mk (Kd.R_lower ho7 (below_size bel_)); replace HB := stepB_ hb; clear hb ho7; obtain ⟨Ao8, co8, eo8⟩ := Kd.R_slice HO225.out; subst eo8; have p226 : 0 ≤ (a0 : Int) := ofd_; have q226 : a0 < (y223.length : Int) := ofd_; obtain ⟨ad226, e226, hx226_0⟩ := Kd.at_string (Kd.R_reads' HO225.out).2.2 a0 p226 q226; cases e226; replace p226 := eq_true p226; replace q226 := eq_true q226))
        go_ret
        exact ⟨rfl_, bel_⟩
      · rw [if_neg c5] at H
        exact absurd H (by simp)
    · rw [if_neg c4] at H
      exact absurd H (by simp)
  · replace c3 := Bool.eq_false_iff.mpr c3
    subst c3
    rw [if_neg (show ¬ (false = true) by decide)] at H
    obtain rfl := Option.some.inj H
    go_enter Try.func40, Try.ntmps40
    go_wp2_with (first | ((with_reducible refine gate_callee (f := 28) rfl ?_); refine goL_ (some 4) Try.func28 #[.int .i64 a0, .int .i64 1, .int .i64 8] ?_; (with_reducible refine (impl_in.calls a0 1 8 false _ A2.out).mono ?_); rintro e w' ⟨rfl, ⟨nd, rfl⟩⟩; refine ⟨_, rfl, ?_⟩))
    go_ret
    exact ⟨rfl_, bel_⟩
end
end Go.Proofs.Ytflcbanemolkfaa.B
