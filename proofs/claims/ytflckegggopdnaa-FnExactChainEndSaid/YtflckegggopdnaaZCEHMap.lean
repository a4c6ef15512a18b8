/- The map from nodes to digests that impl.known makes: what it holds as a plain list, latest first, and what a look-up and a store do. Condition: the nodes' bounds are ints. -/
import Derived.Maps.OwnSet
import Derived.DeepKeys4
import Derived.Test.YtflckegggopdnaaZCEM
import Derived.Test.YtflckegggopdnaaZCEJFacts
namespace Go.Proofs.Ytflckegggopdnaa.B
open Go.RowKit Go.Maps Go.Proofs.YtflckegggopdnaaW.PrintWords Go.Proofs.YtflckegggopdnaaW.PrintLast Go.Proofs.YtflckegggopdnaaW.PrintMore
set_option linter.unusedVariables false
set_option linter.unusedSimpArgs false
set_option maxRecDepth 100000
theorem mapWide : (match Try.prog.underlying 100 with | some (.array _ _) | some (.struct _) => true | _ => false) = true := by rw [Try.underlying100]
theorem mapRow : (100 : TypeId) < Try.prog.types.size := of_decide_eq_true (by kernel_rfl)
theorem mapDeep : Try.prog.keyTypeAt 2 100 = true := by kernel_rfl
theorem mapLaw : Keyed Try.prog 100 := Keyed.of_law (deep_law_laid JFacts.laidOut (m := 2) (by omega) mapRow mapDeep mapWide)
theorem mapType : Try.prog.underlying 107 = some (.map 100 29) := by kernel_rfl
theorem mapKeyType : Try.prog.keyType 100 = true := by kernel_rfl
theorem mapCells : Try.prog.cellsOf 100 = 2 := by kernel_rfl
theorem mapCell : Try.prog.cellsOf 3 = 1 := by kernel_rfl
theorem mapInt : Try.prog.underlying 3 = some (.int .i64) := by kernel_rfl
theorem mapSize : ∃ n, Try.prog.types.size + 1 = n + 2 := by
  have h : (100 : Nat) < Try.prog.types.size := mapRow
  exact ⟨Try.prog.types.size - 1, by omega⟩
def kl (a b : Int) : Lit := .string (keyBytes [.int .i64 a, .int .i64 b])
theorem mapOne (n : Nat) {a : Int} (ha : (Lit.int .i64 a).wf = true) : Try.prog.keyLits (n + 1) 3 [.int .i64 a] = some [.int .i64 a] := by
  simp only [Program.keyLits, mapInt]
  rw [if_pos ⟨trivial, ha⟩]
theorem mapTwo (n : Nat) {a b : Int} (ha : (Lit.int .i64 a).wf = true) (hb : (Lit.int .i64 b).wf = true) : Try.prog.keyLits (n + 2) 100 [.int .i64 a, .int .i64 b] = some [.int .i64 a, .int .i64 b] := by
  unfold Program.keyLits
  rw [Try.underlying100]
  show (if _ ∧ _ then _ else _) = _
  rw [if_pos ⟨by rw [mapCells]; rfl, by kernel_rfl⟩]
  simp only [List.mapM_cons, List.mapM_nil, mapCell, List.drop_zero, List.drop_succ_cons, List.take_succ_cons, List.take_zero, mapOne n ha, mapOne n hb]
  rfl
def nv (a b : Int) : Value := .agg #[.int .i64 a, .int .i64 b]
theorem mapKey {a b : Int} (ha : (Lit.int .i64 a).wf = true) (hb : (Lit.int .i64 b).wf = true) : keyOf Try.prog 100 (nv a b) = some (kl a b) := by
  obtain ⟨n, hn⟩ := mapSize
  unfold keyOf nv
  rw [Try.underlying100]
  have hf : (Value.agg #[.int .i64 a, .int .i64 b]).formed Try.prog 100 = true := by simp [Value.formed, Try.underlying100, mapCells]
  show (if (Try.prog.keyType 100 && (Value.agg #[.int .i64 a, .int .i64 b]).formed Try.prog 100) = true then _ else _) = _
  rw [if_pos (by rw [mapKeyType, hf]; rfl), hn]
  show (Try.prog.keyLits (n + 2) 100 [.int .i64 a, .int .i64 b]).map _ = _
  rw [mapTwo n ha hb]
  rfl
abbrev MapD := List (S100 × S29)
def lookD : MapD → Int → Int → Option S29
  | [], _, _ => none
  | p :: M, a, b => if p.1.f0 = a ∧ p.1.f1 = b then some p.2 else lookD M a b
def dv (d : S29) : Value := .agg #[.int .u64 d.f0, .int .u64 d.f1, .int .u64 d.f2, .int .u64 d.f3]
def okN (a b : Int) : Prop := (Lit.int .i64 a).wf = true ∧ (Lit.int .i64 b).wf = true
def dmap : MapD → DataW Value
  | [] => .map []
  | p :: M => (dmap M).put (kl p.1.f0 p.1.f1) (.held (dv p.2))
def rdM (v : Value) : Option (DataW Value × List MemPlace) := some (.held v, [])
def IsM (w : World) (b n : Nat) (M : MapD) : Prop := w.ownsMap Try.prog 100 rdM b n (dmap M) ∧ ∀ p ∈ M, okN p.1.f0 p.1.f1
theorem kl_inj {a b c d : Int} (h1 : okN a b) (h2 : okN c d) (h : kl a b = kl c d) : a = c ∧ b = d := by
  have e := mapLaw.inj (mapKey h1.1 h1.2) (by rw [h]; exact mapKey h2.1 h2.2)
  unfold nv at e
  simp at e
  exact e
theorem dmap_isMap (M : MapD) : IsMap (dmap M) := by
  induction M with
  | nil => exact ⟨[], rfl⟩
  | cons p M ih =>
    obtain ⟨es, h⟩ := ih
    show IsMap ((dmap M).put _ _)
    rw [h]
    exact ⟨_, rfl⟩
theorem look_is (M : MapD) (hM : ∀ p ∈ M, okN p.1.f0 p.1.f1) {a b : Int} (h : okN a b) (z : Value) : Maps.has (dmap M) (kl a b) = (lookD M a b).isSome ∧ (dmap M).atKey (kl a b) (.held z) = .held (match lookD M a b with | some d => dv d | none => z) := by
  induction M with
  | nil => exact ⟨rfl, rfl⟩
  | cons p M ih =>
    obtain ⟨i1, i2⟩ := ih fun q hq => hM q (List.mem_cons_of_mem _ hq)
    have hp := hM p List.mem_cons_self
    by_cases c : p.1.f0 = a ∧ p.1.f1 = b
    · have e : lookD (p :: M) a b = some p.2 := by simp only [lookD]; rw [if_pos c]
      rw [e]
      obtain ⟨rfl, rfl⟩ := c
      have hk := mapLaw.key (mapKey hp.1 hp.2)
      exact ⟨has_put_same (dmap_isMap M) hk _, atKey_put_same (dmap_isMap M) hk _ _⟩
    · have e : lookD (p :: M) a b = lookD M a b := by simp only [lookD]; rw [if_neg c]
      rw [e]
      have hne : kl a b ≠ kl p.1.f0 p.1.f1 := fun hh => c (by obtain ⟨x, y⟩ := kl_inj h hp hh; exact ⟨x.symm, y.symm⟩)
      exact ⟨(has_put_other hne _).trans i1, (atKey_put_other hne _ _).trans i2⟩
theorem IsM.below {w w' : World} {b n : Nat} {M : MapD} (h : IsM w b n M) (hb : Below w.heap.size w w') : IsM w' b n M := by
  obtain ⟨⟨es, c, h1, h2⟩, h3⟩ := h
  exact ⟨⟨es, c, blk_below h1 hb, h2⟩, h3⟩
theorem IsM.alloc {w : World} {b n : Nat} {M : MapD} (h : IsM w b n M) (o : Obj) : IsM (w.alloc o) b n M := ⟨h.1.alloc o, h.2⟩
theorem IsM.drew {w : World} {b n : Nat} {M : MapD} (h : IsM w b n M) : IsM w.drew b n M := ⟨h.1.drew, h.2⟩
theorem IsM.drewN {w : World} {b n : Nat} {M : MapD} (h : IsM w b n M) (m : Nat) : IsM (w.drewN m) b n M := h.below (pw_below_drewN (Below.refl _ _) m)
theorem IsM.set {w : World} {b n : Nat} {M : MapD} (h : IsM w b n M) {a : Addr} (ha : b ≠ a.block) (u : Value) : IsM (w.setCell a u) b n M := ⟨h.1.setCell ha u, h.2⟩
theorem IsM.grown {w w' : World} {b n : Nat} {M : MapD} (h : IsM w b n M) {row : Option Nat} (hg : w.grownBy w' row) (hne : some b ≠ row) : IsM w' b n M := ⟨h.1.kept hg hne, h.2⟩
theorem IsM.made (w : World) : IsM (w.alloc (.map #[] 0)) w.heap.size 0 [] := ⟨World.ownsMap_made _ _ _ _, fun p hp => by simp at hp⟩
section
variable {ops : Array Oper} {rest : List Oper} {o : Oper} {a : Act} {Q : Exit → Act → World → Prop} {w : World} {b n : Nat} {M : MapD} {x y : Int}
theorem zeroD (w : World) : (zeroValue 29).run Try.prog w = .ok (.agg #[.int .u64 0, .int .u64 0, .int .u64 0, .int .u64 0]) w := by kernel_rfl
theorem lookM_ (hI : IsM w b n M) (m k : Operand) (ok : okN x y) (hm : a.eval m = .map (some b)) (hx : a.eval k = nv x y)
    (hK : wpList Try.prog ops Q rest (a.put o.dst (.tuple #[match lookD M x y with | some d => dv d | none => .agg #[.int .u64 0, .int .u64 0, .int .u64 0, .int .u64 0], .bool (lookD M x y).isSome])) w)
    (hop : o.op = Op.lookup 107 m k true := by rfl) (hg : o.guard = none := by rfl) : wpList Try.prog ops Q (o :: rest) a w := by
  obtain ⟨l1, l2⟩ := look_is M hI.2 ok (.agg #[.int .u64 0, .int .u64 0, .int .u64 0, .int .u64 0])
  refine wpList_lookup_own_ok w hg m k 107 hop 100 29 mapLaw mapType rdM (zeroD w) (.held (.agg #[.int .u64 0, .int .u64 0, .int .u64 0, .int .u64 0])) [] rfl b n (dmap M) hm hI.1 _ (kl x y) hx (mapKey ok.1 ok.2) (fun v ps hv => ?_)
  rw [l2] at hv
  unfold rdM at hv
  simp only [Option.some.injEq, Prod.mk.injEq, DataW.held.injEq] at hv
  rw [hv.1, l1]
  exact hK
end
end Go.Proofs.Ytflckegggopdnaa.B
