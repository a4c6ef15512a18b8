/- The table of digits, the error that a listed variable holds, and '[]byte(s)' beside a row that may be written meanwhile. Condition: the text is no longer than a Go string may be. -/
import Derived.Test.YtflcbanemolkfaaDoorZHFM
import Derived.Test.YtflcbanemolkfaaDoorZHFHBytesEv
namespace Go.Proofs.YtflcbanemolkfaaDoor.B
open Go.RowKit Go.Proofs.YtflcbanemolkfaaDoorW.PrintWords Go.Proofs.YtflcbanemolkfaaDoorW.PrintLast Go.Proofs.YtflcbanemolkfaaDoorW.PrintMore
set_option linter.unusedVariables false
set_option linter.unusedSimpArgs false
abbrev hexTab : ByteArray := { data := #[255, 255, 255, 255, 255, 255, 255, 255, 255, 255, 255, 255, 255, 255, 255, 255, 255, 255, 255, 255, 255, 255, 255, 255, 255, 255, 255, 255, 255, 255, 255, 255, 255, 255, 255, 255, 255, 255, 255, 255, 255, 255, 255, 255, 255, 255, 255, 255, 0, 1, 2, 3, 4, 5, 6, 7, 8, 9, 255, 255, 255, 255, 255, 255, 255, 10, 11, 12, 13, 14, 15, 255, 255, 255, 255, 255, 255, 255, 255, 255, 255, 255, 255, 255, 255, 255, 255, 255, 255, 255, 255, 255, 255, 255, 255, 255, 255, 10, 11, 12, 13, 14, 15, 255, 255, 255, 255, 255, 255, 255, 255, 255, 255, 255, 255, 255, 255, 255, 255, 255, 255, 255, 255, 255, 255, 255, 255, 255, 255, 255, 255, 255, 255, 255, 255, 255, 255, 255, 255, 255, 255, 255, 255, 255, 255, 255, 255, 255, 255, 255, 255, 255, 255, 255, 255, 255, 255, 255, 255, 255, 255, 255, 255, 255, 255, 255, 255, 255, 255, 255, 255, 255, 255, 255, 255, 255, 255, 255, 255, 255, 255, 255, 255, 255, 255, 255, 255, 255, 255, 255, 255, 255, 255, 255, 255, 255, 255, 255, 255, 255, 255, 255, 255, 255, 255, 255, 255, 255, 255, 255, 255, 255, 255, 255, 255, 255, 255, 255, 255, 255, 255, 255, 255, 255, 255, 255, 255, 255, 255, 255, 255, 255, 255, 255, 255, 255, 255, 255, 255, 255, 255, 255, 255, 255, 255, 255, 255, 255, 255, 255, 255, 255, 255, 255, 255, 255] }
abbrev EVp (a : Addr) : Value := .iface 63 (.pointer (some a))
def errV (a : Addr) (c : Int) : Value := if c = 0 then .nilIface else EVp a
theorem errV_one (a : Addr) {c : Int} (h : ¬ c = 0) : errV a c = EVp a := if_neg h
def impl_bytesRow.f (s : ByteArray) : Option (List Int) := if s.size ≤ 9223372036854775807 then some (bytesOf s) else none
theorem bytesRow_is {s : ByteArray} {r : List Int} (h : impl_bytesRow.f s = some r) : s.size ≤ 9223372036854775807 ∧ bytesOf s = r := by
  unfold impl_bytesRow.f at h
  by_cases c : s.size ≤ 9223372036854775807
  · rw [if_pos c] at h
    exact ⟨c, Option.some.inj h⟩
  · rw [if_neg c] at h
    exact absurd h (by simp)
theorem bytes_kept {W W' : World} {S : Nat → Prop} (hS : ¬ S W.heap.size) {s : ByteArray} {e : TypeId} (hs : s.size ≤ 9223372036854775807) (hk : Kept (Lib.bytesWorld W e s) W' S) : ReadsOf (Value.int .u8) (0 : Int) W' (some ⟨W.heap.size, 0, none⟩) s.size (bytesOf s) := by
  obtain ⟨h1, h2, h3⟩ := bytes_are W e s hs
  refine ⟨h1, h2, fun h0 => ?_⟩
  obtain ⟨q, hq, h4⟩ := h3 h0
  refine ⟨q, hq, fun j hj => ?_⟩
  rw [← h4 j hj]
  obtain rfl := Option.some.inj hq
  have hb : W'.heap[W.heap.size]? = (Lib.bytesWorld W e s).heap[W.heap.size]? := hk.2 _ (by rw [Lib.bytesWorld_size]; omega) hS
  rw [add_plain]
  exact World.cell?_of_block hb
section
variable {P : Program} {ops : Array Oper} {rest : List Oper} {o : Oper} {a : Act} {Q : Exit → Act → World → Prop}
theorem bytesK_ {W : World} {S : Nat → Prop} (hS : ¬ S W.heap.size) (hgd : o.guard = none) {N : Tmp} (_hd : o.dst = some N) {s : ByteArray} {e : TypeId} (hs : s.size ≤ 9223372036854775807)
    (hrun : (execOp a.eval o).run P W = .ok (.value (.slice (some ⟨W.heap.size, 0, none⟩) s.size (grownCap W s.size 0 e))) (Lib.bytesWorld W e s))
    (h : ∀ (A : Option Addr) (c : Nat) (w1 : World), (∀ W', Kept w1 W' S → Kd.C (Kd.int .u8) W' A s.size (bytesOf s)) → s.size ≤ c → Below W.heap.size W w1 → wpList P ops Q rest (a.put o.dst (.slice A s.size c)) w1) : wpList P ops Q (o :: rest) a W := by
  exact Kd.event_run hgd hrun (h _ _ _ (fun W' hk => Kd.C_of_reads (bytes_kept hS hs hk)) (grownCap_ge W s.size 0 e) ⟨rfl, rfl, rfl, by rw [Lib.bytesWorld_size]; omega, fun i hi => Lib.bytesWorld_at_old W e s i (by omega)⟩)
end
end Go.Proofs.YtflcbanemolkfaaDoor.B
