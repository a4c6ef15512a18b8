/- What an argument of a type of whole numbers, bools, strings, structs and slices of these reads as, in the print's words (no condition): 'Opens'. -/
import Derived.Deep.Slices
import Derived.ChangeArms
import Derived.WideShapes
import Derived.Test.YtflcbanemolkfaaZWBV1
namespace Go.Proofs.Ytflcbanemolkfaa.Opening
open Go.Proofs.YtflcbanemolkfaaW.PrintWords Go.Deep Go.WideShapes
variable {P : Program} {α β : Type}
def Opens (P : Program) (d : Kd α) (t : TypeId) (ok : α → Prop) : Prop :=
  ∀ (H : Type) (enc : TypeId × Value → H) (w : World) (fuel : Nat) (cs : List Value) (x : DataW H × List MemPlace),
    DataW.trod enc P w 0 (fun _ => true) true fuel t cs = some x → ∃ y : α, d.K w y cs ∧ ok y
theorem opens_int {t : TypeId} {k : IntKind} (ht : P.underlying t = some (.int k)) : Opens P (Kd.int k) t (fun y => (Lit.int k y).wf = true) := by
  intro H enc w fuel cs x h
  obtain ⟨n, rfl, _, hw⟩ := DataW.trod_int ht h
  exact ⟨n, rfl, hw⟩
theorem opens_string {t : TypeId} (ht : P.underlying t = some .string) : Opens P Kd.string t (fun s => s.size ≤ 9223372036854775807) := by
  intro H enc w fuel cs x h
  obtain ⟨n, rfl, _, hm⟩ := DataW.trod_string ht h
  unfold maxLen at hm
  exact ⟨n, rfl, hm⟩
theorem list_of {p : Nat → α → Prop} : ∀ {n : Nat}, (∀ i, i < n → ∃ y, p i y) → ∃ l : List α, l.length = n ∧ ∀ i y, l[i]? = some y → p i y
  | 0, _ => ⟨[], rfl, fun i y h => by simp at h⟩
  | n + 1, h => by
    obtain ⟨l, hl, hp⟩ := list_of (n := n) (fun i hi => h i (Nat.lt_succ_of_lt hi))
    obtain ⟨y, hy⟩ := h n (Nat.lt_succ_self n)
    refine ⟨l ++ [y], by simp [hl], fun i z hz => ?_⟩
    rcases Nat.lt_or_ge i l.length with hi | hi
    · rw [List.getElem?_append_left hi] at hz
      exact hp i z hz
    · have hi' : i = n := by
        have := (List.getElem?_eq_some_iff.1 hz).1
        simp at this
        omega
      subst hi'
      have : y = z := by simpa [← hl] using hz
      subst this
      exact hy
theorem opens_slice {d : Kd α} {t e : TypeId} {ok : α → Prop} (ht : P.underlying t = some (.slice e)) (hc : P.cellsOf e = d.sz) (hd : Opens P d e ok) :
    Opens P (Kd.slice e d) t (fun l => l.length ≤ 9223372036854775807 ∧ ∀ y ∈ l, ok y) := by
  intro H enc w fuel cs x h
  rcases open_slice ht h with ⟨rfl, _⟩ | ⟨a, len, cap, m, n, D, Pl, rfl, _, hl, hm, hmm, _, hx⟩
  · exact ⟨[], ⟨none, 0, rfl, Nat.le_refl _, rfl, by simp, fun h0 => absurd h0 (by simp)⟩, by simp, fun y hy => absurd hy (by simp)⟩
  · have hm' : m = cap := by simpa using hmm
    unfold maxLen at hm
    obtain ⟨ys, hlen, hys⟩ := list_of (n := len) (p := fun i y => (∃ c, c.length = d.sz ∧ d.K w y c ∧ ∀ j u, c[j]? = some u → w.cell? (a.add (i * d.sz + j)) = some u) ∧ ok y) (fun i hi => by
      obtain ⟨cs', h1, h2⟩ := hx i (by omega)
      obtain ⟨y, hy, hk⟩ := hd H enc w n cs' _ h2
      obtain ⟨_, hcl, hcell⟩ := World.cells?_some h1
      refine ⟨y, ⟨cs', by rw [hcl, hc], hy, fun j u hu => ?_⟩, hk⟩
      have hj : j < P.cellsOf e := by rw [← hcl]; exact (List.getElem?_eq_some_iff.1 hu).1
      rw [← hu, ← hcell j hj, Go.Deep.add_add, hc])
    refine ⟨ys, ⟨some a, cap, by rw [hlen], by rw [hlen]; exact hl, rfl, by rw [hlen]; omega, fun _ => ⟨a, rfl, fun j p hj => (hys j p hj).1⟩⟩, by rw [hlen]; omega, fun y hy => ?_⟩
    obtain ⟨i, hi⟩ := List.getElem?_of_mem hy
    exact (hys i y hi).2
def OpensF (P : Program) (d : Kd α) (fs : List Field) (off : Nat) (ok : α → Prop) : Prop :=
  ∀ (H : Type) (enc : TypeId × Value → H) (w : World) (m : Nat) (cs : List Value),
    (∀ f ∈ fs, ∃ x, DataW.trod enc P w 0 (fun _ => true) true m f.type ((cs.drop f.offset).take (P.cellsOf f.type)) = some x) → cs.length = off + d.sz → ∃ y : α, d.K w y (cs.drop off) ∧ ok y
theorem opensF_last {d : Kd α} {f : Field} {off : Nat} {ok : α → Prop} (ho : f.offset = off) (hc : P.cellsOf f.type = d.sz) (hd : Opens P d f.type ok) : OpensF P d [f] off ok := by
  intro H enc w m cs h hl
  obtain ⟨x, hx⟩ := h f (by simp)
  rw [ho, hc, List.take_of_length_le (by rw [List.length_drop]; omega)] at hx
  exact hd H enc w m _ _ hx
theorem opensF_cons {d : Kd α} {d' : Kd β} {f : Field} {fs : List Field} {off off' : Nat} {ok : α → Prop} {ok' : β → Prop} (ho : f.offset = off) (hc : P.cellsOf f.type = d.sz) (hd : Opens P d f.type ok)
    (hn : off' = off + d.sz) (hs : OpensF P d' fs off' ok') : OpensF P (Kd.pair d d') (f :: fs) off (fun y => ok y.1 ∧ ok' y.2) := by
  intro H enc w m cs h hl
  obtain ⟨x, hx⟩ := h f (by simp)
  have hl' : cs.length = off + (d.sz + d'.sz) := hl
  rw [ho, hc] at hx
  obtain ⟨y, hy, hk⟩ := hd H enc w m _ _ hx
  obtain ⟨z, hz, hk'⟩ := hs H enc w m cs (fun g hg => h g (by simp [hg])) (by omega)
  refine ⟨(y, z), ⟨(cs.drop off).take d.sz, cs.drop off', ?_, hy, hz⟩, hk, hk'⟩
  rw [hn, ← List.drop_drop, List.take_append_drop]
theorem opens_struct {d : Kd α} {t : TypeId} {fs : Array Field} {ok : α → Prop} {f : β → α} {g : α → β} (ht : P.underlying t = some (.struct fs)) (hc : P.cellsOf t = d.sz) (hfg : ∀ y, f (g y) = y)
    (hs : OpensF P d fs.toList 0 ok) : Opens P (Kd.iso d f) t (fun y => ok (f y)) := by
  intro H enc w fuel cs x h
  obtain ⟨xs, n, _, _, hl, hlen, hf⟩ := DataW.trod_struct ht h
  obtain ⟨y, hy, hk⟩ := hs H enc w n cs (fun q hq => by
    obtain ⟨i, hi⟩ := List.getElem?_of_mem hq
    have hi2 : fs[i]? = some q := by simpa using hi
    have hlt : i < xs.length := by rw [hlen]; exact (Array.getElem?_eq_some_iff.1 hi2).1
    exact ⟨xs[i], by rw [hf i q hi2]; exact List.getElem?_eq_getElem hlt⟩) (by rw [hl, hc]; omega)
  refine ⟨g y, ?_, by show ok (f (g y)); rw [hfg]; exact hk⟩
  show d.K w (f (g y)) cs
  rw [hfg]
  exact hy
end Go.Proofs.Ytflcbanemolkfaa.Opening
