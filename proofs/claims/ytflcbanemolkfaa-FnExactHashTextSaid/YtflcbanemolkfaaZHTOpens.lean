/- What an argument of a type of whole numbers, bools, strings, structs and slices of these reads as, in the print's words (no condition): 'Opens'. -/
import Derived.Deep.Slices
import Derived.ChangeArms
import Derived.WideShapes
import Derived.Test.YtflcbanemolkfaaZHTV1
namespace Go.Proofs.Ytflcbanemolkfaa.Opening
open Go.Proofs.YtflcbanemolkfaaW.PrintWords Go.Deep Go.WideShapes
variable {P : Program} {α β : Type}
def Opens (P : Program) (d : Kd α) (t : TypeId) (ok : α → Prop) : Prop :=
  ∀ (H : Type) (enc : TypeId × Value → H) (w : World) (fuel : Nat) (cs : List Value) (x : DataW H × List MemPlace),
    DataW.trod enc P w 0 (fun _ => true) true fuel t cs = some x → ∃ y : α, d.K w y cs ∧ ok y
theorem opens_int {t : TypeId} {k : IntKind} (ht : P.underlying t = some (.int k)) : Opens P (Kd.int k) t (fun y => (Lit.int k y).wf = true) := by
  intro H enc w fuel cs x h
  obtain ⟨n, rfl, _, hw⟩ := DataW.trod_int ht h
  exact ⟨n, rfl, hw⟩
def OpensF (P : Program) (d : Kd α) (fs : List Field) (off : Nat) (ok : α → Prop) : Prop :=
  ∀ (H : Type) (enc : TypeId × Value → H) (w : World) (m : Nat) (cs : List Value),
    (∀ f ∈ fs, ∃ x, DataW.trod enc P w 0 (fun _ => true) true m f.type ((cs.drop f.offset).take (P.cellsOf f.type)) = some x) → cs.length = off + d.sz → ∃ y : α, d.K w y (cs.drop off) ∧ ok y
theorem opensF_last {d : Kd α} {f : Field} {off : Nat} {ok : α → Prop} (ho : f.offset = off) (hc : P.cellsOf f.type = d.sz) (hd : Opens P d f.type ok) : OpensF P d [f] off ok := by
  intro H enc w m cs h hl
  obtain ⟨x, hx⟩ := h f (by simp)
  rw [ho, hc, List.take_of_length_le (by rw [List.length_drop]; omega)] at hx
  exact hd H enc w m _ _ hx
theorem opensF_cons {d : Kd α} {d' : Kd β} {f : Field} {fs : List Field} {off off' : Nat} {ok : α → Prop} {ok' : β → Prop} (ho : f.offset = off) (hc : P.cellsOf f.type = d.sz) (hd : Opens P d f.type ok)
    (hn : off' = off + d.sz) (hs : OpensF P d' fs off' ok') : OpensF P (Kd.pair d d') (f :: fs) off (fun y => ok y.1 ∧ ok' y.2) := by
  intro H enc w m cs h hl
  obtain ⟨x, hx⟩ := h f (by simp)
  have hl' : cs.length = off + (d.sz + d'.sz) := hl
  rw [ho, hc] at hx
  obtain ⟨y, hy, hk⟩ := hd H enc w m _ _ hx
  obtain ⟨z, hz, hk'⟩ := hs H enc w m cs (fun g hg => h g (by simp [hg])) (by omega)
  refine ⟨(y, z), ⟨(cs.drop off).take d.sz, cs.drop off', ?_, hy, hz⟩, hk, hk'⟩
  rw [hn, ← List.drop_drop, List.take_append_drop]
theorem opens_struct {d : Kd α} {t : TypeId} {fs : Array Field} {ok : α → Prop} {f : β → α} {g : α → β} (ht : P.underlying t = some (.struct fs)) (hc : P.cellsOf t = d.sz) (hfg : ∀ y, f (g y) = y)
    (hs : OpensF P d fs.toList 0 ok) : Opens P (Kd.iso d f) t (fun y => ok (f y)) := by
  intro H enc w fuel cs x h
  obtain ⟨xs, n, _, _, hl, hlen, hf⟩ := DataW.trod_struct ht h
  obtain ⟨y, hy, hk⟩ := hs H enc w n cs (fun q hq => by
    obtain ⟨i, hi⟩ := List.getElem?_of_mem hq
    have hi2 : fs[i]? = some q := by simpa using hi
    have hlt : i < xs.length := by rw [hlen]; exact (Array.getElem?_eq_some_iff.1 hi2).1
    exact ⟨xs[i], by rw [hf i q hi2]; exact List.getElem?_eq_getElem hlt⟩) (by rw [hl, hc]; omega)
  refine ⟨g y, ?_, by show ok (f (g y)); rw [hfg]; exact hk⟩
  show d.K w (f (g y)) cs
  rw [hfg]
  exact hy
end Go.Proofs.Ytflcbanemolkfaa.Opening
