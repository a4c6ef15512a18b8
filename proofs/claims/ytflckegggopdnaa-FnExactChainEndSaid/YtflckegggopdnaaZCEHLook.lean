/- 'v, ok := m[k]' on the map from nodes to digests, told as a call: what it answers. Condition: the node's bounds are ints. -/
import Derived.Test.YtflckegggopdnaaZCEHMap
namespace Go.Proofs.Ytflckegggopdnaa.B
open Go.RowKit Go.Maps Go.Proofs.YtflckegggopdnaaW.PrintWords Go.Proofs.YtflckegggopdnaaW.PrintLast Go.Proofs.YtflckegggopdnaaW.PrintMore
set_option linter.unusedVariables false
instance okNDec (a b : Int) : Decidable (okN a b) := inferInstanceAs (Decidable (_ ∧ _))
def impl_lookAt.f (M : MapD) (a b : Int) : Option (Int × Int × Int × Int × Bool) := if okN a b then some (match lookD M a b with | some d => (d.f0, d.f1, d.f2, d.f3, true) | none => (0, 0, 0, 0, false)) else none
section
variable {ops : Array Oper} {rest : List Oper} {o : Oper} {a : Act} {Q : Exit → Act → World → Prop} {w : World} {mb mn : Nat} {M : MapD} {x y t1 t2 t3 t4 : Int} {t5 : Bool}
theorem goLook_ {N : Option Tmp} {m k : Operand} (hI : IsM w mb mn M) (h : impl_lookAt.f M x y = some (t1, t2, t3, t4, t5))
    (K : ∀ w', Below w.heap.size w w' → wpList Try.prog ops Q rest (a.put N (.tuple #[.agg #[.int .u64 t1, .int .u64 t2, .int .u64 t3, .int .u64 t4], .bool t5])) w')
    (hop : o.op = Op.lookup 107 m k true := by rfl) (hd : o.dst = N := by rfl) (hg : o.guard = none := by rfl) (hm : a.eval m = .map (some mb) := by rfl) (hx : a.eval k = .agg #[.int .i64 x, .int .i64 y] := by rfl) : wpList Try.prog ops Q (o :: rest) a w := by
  unfold impl_lookAt.f at h
  by_cases c : okN x y
  · rw [if_pos c] at h
    refine lookM_ hI m k c hm hx ?_ hop hg
    rw [hd]
    have K0 := K w (Below.refl _ _)
    cases e : lookD M x y with
    | none =>
      rw [e] at h
      simp only [Option.some.injEq, Prod.mk.injEq] at h
      obtain ⟨rfl, rfl, rfl, rfl, rfl⟩ := h
      exact K0
    | some d =>
      rw [e] at h
      simp only [Option.some.injEq, Prod.mk.injEq] at h
      obtain ⟨rfl, rfl, rfl, rfl, rfl⟩ := h
      exact K0
  · rw [if_neg c] at h
    exact absurd h (by simp)
theorem goMake_ {W : World} {N : Option Tmp} (h : ∀ g, g = W.heap.size → ∀ w1, IsM w1 g 0 [] → Below W.heap.size W w1 → wpList Try.prog ops Q rest (a.put N (.map (some g))) w1)
    (hop : o.op = Op.makeMap 107 none := by rfl) (hd : o.dst = N := by rfl) (hg : o.guard = none := by rfl) : wpList Try.prog ops Q (o :: rest) a W := by
  refine wpList_plain hg fun K' hK' => ?_
  unfold Oper.wp
  simp [execOp, hop, run_makeMap, Result.andThen]
  refine hK' _ _ ?_
  rw [hd]
  exact h _ rfl _ (IsM.made W) (below_alloc (Below.refl _ _) _)
def impl_makeAt.f : Option MapD := some []
def impl_putAt.f (M : MapD) (a b c d e f : Int) : Option MapD := if okN a b then some ((⟨a, b⟩, ⟨c, d, e, f⟩) :: M) else none
theorem isU_ {W : World} (h : IsM w mb mn M) (t : IsM w mb mn M → IsM W mb mn M := by intro h_; (with_reducible repeat (first | apply IsM.drewN | apply IsM.drew | apply IsM.alloc)); exact h_) : IsM W mb mn M := t h
theorem IsM.ne (h : IsM w mb mn M) {g : Nat} {cs : Array Value} {t : TypeId} (hb : w.heap[g]? = some (.cells cs t (0, 0))) : mb ≠ g := by
  rintro rfl
  obtain ⟨⟨es, c, h1, _⟩, _⟩ := h
  rw [h1] at hb
  simp at hb
theorem R_map {α : Type} {d : Kd α} {e base : Nat} {ok : Nat → Prop} {v : Value} {xs : List α} (h : d.R e w base ok v xs) (hI : IsM w mb mn M) : d.R e w base (fun k => ok k ∧ k ≠ mb) v xs :=
  Kd.R_mono (Kd.R_bound h) (fun k hk => ⟨hk.1, fun e => by
    obtain ⟨_, _, _, q, _, cs, hc⟩ := hk
    exact hI.ne (by rw [← e] at *; exact hc) e.symm⟩)
theorem R_grownM {α : Type} {d : Kd α} {e base : Nat} {ok : Nat → Prop} {v : Value} {xs : List α} {w1 : World} (h : d.R e w base ok v xs) (hI : IsM w mb mn M) (hg : w.grownBy w1 (some mb)) : d.R e w1 base ok v xs :=
  Kd.R_mono (Kd.R_step (R_map h hI) (fun k ho hlt => hg.block k hlt (fun e => ho.2 (Option.some.inj e)))) (fun _ hk => hk.1)
theorem goPut_ {P : Program} {m k v : Operand} {K : Act → World → Prop} {c d e f : Int} {M' : MapD} (hP : P = Try.prog) (hI : IsM w mb mn M) (hA : impl_putAt.f M x y c d e f = some M') (hn : mn < maxLen)
    (h : ∀ w', IsM w' mb (mn + 1) M' → w.grownBy w' (some mb) → K (a.put none undef) w')
    (hop : o.op = Op.mapUpdate 107 m k v := by rfl) (hw : Region.wanted o (yielded ops a.tmps) = true := by rfl) (hN : o.dst = none := by rfl)
    (hm : a.eval m = .map (some mb) := by rfl) (hx : a.eval k = .agg #[.int .i64 x, .int .i64 y] := by rfl) (hv : a.eval v = .agg #[.int .u64 c, .int .u64 d, .int .u64 e, .int .u64 f] := by rfl) :
    if Region.wanted o (yielded ops a.tmps) = true then Oper.wp P o a w K Q else K (a.put none undef) w := by
  subst hP
  unfold impl_putAt.f at hA
  by_cases ok : okN x y
  · rw [if_pos ok] at hA
    obtain rfl := Option.some.inj hA
    rw [if_pos hw]
    obtain ⟨w', hrun, r1, r2⟩ := hI.1.update mapLaw mapType hn (mapKey ok.1 ok.2) (val := .agg #[.int .u64 c, .int .u64 d, .int .u64 e, .int .u64 f]) (d := .held (.agg #[.int .u64 c, .int .u64 d, .int .u64 e, .int .u64 f])) (ps := []) rfl
    have hM : IsM w' mb (mn + 1) ((⟨x, y⟩, ⟨c, d, e, f⟩) :: M) := ⟨r1, fun p hp => by
      rcases List.mem_cons.1 hp with q | q
      · rw [q]; exact ok
      · exact hI.2 p q⟩
    have K0 := h w' hM r2
    unfold nv at hrun
    unfold Oper.wp
    simp only [execOp, hop, hm, hx, hv]
    simp [hrun, Result.andThen]
    show K (a.put o.dst undef) w'
    rw [hN]
    exact K0
  · rw [if_neg ok] at hA
    exact absurd hA (by simp)
end
end Go.Proofs.Ytflckegggopdnaa.B
