/- The builtin copy into a row of the call's own, and the function impl.copied at digests and at texts: a list in new memory. Conditions: lists of at most 2^43 elements. -/
import Derived.Test.YtflckegggopdnaaZGPM
namespace Go.Proofs.Ytflckegggopdnaa.B
open Go.RowKit Go.Proofs.YtflckegggopdnaaW.PrintWords Go.Proofs.YtflckegggopdnaaW.PrintLast Go.Proofs.YtflckegggopdnaaW.PrintMore
theorem run_copy_sz (P : Program) (w : World) (dT sT ty elem : TypeId) (g o dLen dCap : Nat) (a : Addr) (sLen sCap : Nat) (cur : Array Value) (t : TypeId) (cs : List Value) (sz n : Nat)
    (hu : P.underlying dT = some (.slice elem)) (hs : (P.info? elem).map (·.size) = some sz)
    (hg : w.heap[g]? = some (.cells cur t (0, 0))) (hn : n = Nat.min sLen dLen) (hcl : cs.length = n * sz)
    (hsrc : ∀ j v, cs[j]? = some v → w.cell? (a.add j) = some v) (hfit : o + cs.length ≤ cur.size) (h1 : ∀ v ∈ cs, v.oneCell' = true) :
    (Builtin.copy_ #[dT, sT] ty #[.slice (some ⟨g, o, none⟩) dLen dCap, .slice (some a) sLen sCap]).run P w =
      .ok (goInt n) (w.setRow g (cur.toList.take o ++ cs ++ cur.toList.drop (o + cs.length)).toArray) := by
  have hl := run_loadCells_list (P := P) w a cs hsrc
  have hst := run_storeCells_at P g o t cs 0 cur w hg (by simpa using hfit) h1
  cases hq : P.info? elem with
  | none => simp [hq] at hs
  | some i =>
    have hi : i.size = sz := by simpa [hq] using hs
    simp [Builtin.copy_, run_underlying hu, Builtin.lenOf, Builtin.firstCells, sizeOf, typeInfo, hq, hi, ← hn, ← hcl, hl, hst]
section
variable {P : Program} {ops : Array Oper} {rest : List Oper} {o : Oper} {a : Act} {Q : Exit → Act → World → Prop} {α : Type}
theorem R_copy (d : Kd α) {w0 W : World} (base e : Nat) (hgd : o.guard = none) (x y : Operand) (tT sT : TypeId) (ho : o.op = .call { callee := .builtin .copy, args := #[x, y], argTypes := #[tT, sT] })
    (ht : P.underlying tT = some (.slice e)) (hsz : (P.info? e).map (·.size) = some d.sz) (hs0 : 0 < d.sz) (hMK : ∀ w w1 b ok x cs, d.K w x cs → d.M w1 b ok x cs) {v : Value} {xs ys : List α} {A : Option Addr} {c : Nat} {ok : Nat → Prop}
    (hx : a.eval x = v) (hy : a.eval y = .slice A ys.length c) (hR : d.R e W base ok v xs) (hC : d.C W A ys.length ys) (hl : xs.length = ys.length) (hp : 0 < ys.length) (HB : Below base w0 W)
    (h : ∀ w1, d.R e w1 base ok v ys → Below base w0 w1 → wpList P ops Q rest (a.put o.dst (goInt ys.length)) w1) : wpList P ops Q (o :: rest) a W := by
  refine wpList_plain hgd fun K hK => ?_
  obtain ⟨hok, inner, hown, hr⟩ := hR
  obtain ⟨h1, h2⟩ := hown
  rcases h2 with ⟨rfl, h3⟩ | ⟨g, cap, cur, rfl, hb, hg, hnc, hcm, hcs, hct⟩
  · omega
  obtain ⟨ad, rfl, _⟩ := hC.2.2 hp
  obtain ⟨cs, hcr, hcc⟩ := ReadsRow.inner_ hC
  have hone : ∀ u ∈ cs, u.oneCell' = true := by
    intro u hu
    obtain ⟨q, hq, rfl⟩ := List.mem_iff_getElem.1 hu
    have hql : q / d.sz < ys.length := by
      rw [Nat.div_lt_iff_lt_mul hs0, ← hcr.1]
      exact hq
    have hc := hcr.2 (q / d.sz) _ (List.getElem?_eq_getElem hql)
    refine d.K_one hc _ ?_
    rw [List.mem_iff_getElem?]
    refine ⟨q % d.sz, ?_⟩
    rw [List.getElem?_take, if_pos (Nat.mod_lt _ hs0), List.getElem?_drop, Nat.mul_comm, Nat.div_add_mod, List.getElem?_eq_getElem hq]
  have hfit : 0 + cs.length ≤ cur.size := by
    rw [hcr.1, hcs, Nat.zero_add]
    exact Nat.mul_le_mul_right _ (by omega)
  have hrun := run_copy_sz P W tT sT o.type e g 0 xs.length cap ad ys.length c cur e cs d.sz ys.length ht hsz hg (by rw [hl]; exact (Nat.min_self _).symm) hcr.1 hcc hfit hone
  simp only [List.take_zero, List.nil_append, Nat.zero_add] at hrun
  unfold Oper.wp
  simp [execOp, ho, resolve, invoke, builtin, hx, hy, hrun, Result.andThen]
  refine hK _ _ (h _ ⟨hok, cs, ⟨hcr.1, .inr ⟨g, cap, _, by rw [hl], hb, setRow_heap W g cur _ e _ hg, by omega, hcm, ?_, ?_⟩⟩, ?_⟩ (HB.trans ⟨rfl, rfl, rfl, by simp [World.setRow], fun k hk => setRow_other W g k _ (by omega)⟩))
  · simp only [List.size_toArray, List.length_append, List.length_drop, Array.length_toList]
    omega
  · rw [List.toList_toArray, List.take_left' hcr.1]
  · exact hcr.imp_ (fun p q hq => hMK _ _ _ _ _ _ hq)
end
end Go.Proofs.Ytflckegggopdnaa.B
