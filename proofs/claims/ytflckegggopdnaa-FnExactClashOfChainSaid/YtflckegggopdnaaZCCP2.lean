/- Texts that this claim's law leans on, without what nothing names. What each says stands at its theorems; conditions stand in them. (Put together by the session's program shake.py; Lean checks it.) -/
import Derived.Maps.OwnSet
import Derived.DeepKeys4
import Derived.Test.YtflckegggopdnaaZCCP0
set_option linter.unusedVariables false
set_option maxHeartbeats 8000000
set_option maxRecDepth 100000
set_option linter.unusedSimpArgs false
namespace Go.Proofs.Ytflckegggopdnaa.B
section
open Go.RowKit Go.Proofs.YtflckegggopdnaaW
attribute [go_sem] max2_int min2_int max_two min_two max_three min_three max_four min_four
theorem bel_ {p : Prop} (h : p := by repeat (first | (with_reducible first | exact HB.out | apply below_alloc | apply pw_below_drewN | apply below_drew1 | refine below_set ?_ (Aside0.out (by assumption))) | exact HB.out)) : p := h
theorem ifn_ {α : Type} {p : Prop} [Decidable p] {x : Option α} {r : α} (H : (if p then x else none) = some r) : p ∧ x = some r := by
  by_cases c : p
  · rw [if_pos c] at H
    exact ⟨c, H⟩
  · rw [if_neg c] at H
    exact absurd H (by simp)
theorem ifd_ {α : Type} {p : Prop} [Decidable p] {x : Option α} {r : α} (H : (if p then x else none) = some r) : decide p = true ∧ x = some r := ⟨decide_eq_true (ifn_ H).1, (ifn_ H).2⟩
theorem blkFarO_ {w : World} {g g' j : Nat} {o : Obj} {u : Value} (hp : Aside0 (g ≠ g')) (h : w.heap[g]? = some o) : (w.setCell ⟨g', j, none⟩ u).heap[g]? = some o := (Below.heap_setCell w ⟨g', j, none⟩ u g hp.out).trans h
theorem blkFarA_ {w : World} {g g' j : Nat} {t : TypeId} {cs : Array Value} {u : Value} (hp : Aside0 (g ≠ g')) (h : w.heap[g]? = some (.cells cs t (0, 0))) : (w.setCell ⟨g', j, none⟩ u).heap[g]? = some (.cells cs t (0, 0)) := blkFarO_ hp h
theorem blkU_ {w0 w : World} {g : Nat} {o : Obj} (h : w0.heap[g]? = some o) (t : w0.heap[g]? = some o → w.heap[g]? = some o := by intro h_; (with_reducible repeat (first | refine blk_drewN ?_ _ | refine blk_drew ?_ | refine blk_alloc ?_ _ | (apply blkFarO_; assumption))); exact h_) : w.heap[g]? = some o := t h
theorem kdU_ {p q : Prop} (h : q) (t : q → p := by intro h_; (with_reducible repeat (first | apply Kd.R_alloc | apply Kd.R_drewN | apply Kd.R_drew)); exact h_) : p := t h
theorem s_ {w W w2 : World} (k : Below W.heap.size W w2) (h : Below w.heap.size w W := by repeat (first | (with_reducible first | exact HB.out | apply below_alloc | apply pw_below_drewN | apply below_drew1 | refine below_set ?_ (Aside0.out (by assumption))) | exact HB.out)) : Aside0 (Below w.heap.size w w2) := ⟨below_step h k⟩
theorem rB_ (w : World) : Aside0 (Below w.heap.size w w) := ⟨Below.refl _ _⟩
abbrev TT_ := Bool × List (List Nat × List Nat)
theorem sizeB_ {w W : World} {g : Nat} (k : g = W.heap.size) (h : Below w.heap.size w W := by repeat (first | (with_reducible first | exact HB.out | apply below_alloc | apply pw_below_drewN | apply below_drew1 | refine below_set ?_ (Aside0.out (by assumption))) | exact HB.out)) : Aside0 (w.heap.size ≤ g) := ⟨k ▸ below_size h⟩
theorem drawnK_ {W w2 : World} {g : Nat} {o : Obj} (h : W.heap[g]? = some o) (k : Drawn0 W w2) : Aside0 (w2.heap[g]? = some o) := by
  obtain ⟨n, rfl⟩ := k
  exact ⟨blk_drewN h n⟩
theorem drawnB_ {w W w2 : World} (h : Below w.heap.size w W) (k : Drawn0 W w2) : Aside0 (Below w.heap.size w w2) := by
  obtain ⟨n, rfl⟩ := k
  exact ⟨pw_below_drewN h n⟩
theorem rfl_ {p : Prop} (h : p := by first | rfl | (simp [errW_none, errW_some] <;> rfl) | (simp [*, errW_none, errW_some] <;> rfl)) : p := h
theorem ofd_ {p : Prop} [Decidable p] (h : decide p = true := by first | (with_reducible assumption) | assumption) : p := of_decide_eq_true h
theorem bnd_ {α β : Type} {x : Option α} {f : α → Option β} {r : β} (h : x.bind f = some r) : ∃ a, Aside0 (x = some a) ∧ f a = some r := by
  obtain ⟨a, h1, h2⟩ := Option.bind_eq_some_iff.mp h
  exact ⟨a, ⟨h1⟩, h2⟩
section
variable {w : World} {g : Nat} {t : TypeId}
theorem cz2_ {a b : Value} (h : w.heap[g]? = some (.cells #[a, b] t (0, 0))) : w.cell? ⟨g, 0, none⟩ = some a ∧ w.cell? ⟨g, 1, none⟩ = some b ∧ w.frozen? ⟨g, 0, none⟩ = false ∧ w.frozen? ⟨g, 1, none⟩ = false := ⟨(blk_cell h 0).trans rfl, (blk_cell h 1).trans rfl, blk_frozen h 0, blk_frozen h 1⟩
theorem cz4_ {a b c d : Value} (h : w.heap[g]? = some (.cells #[a, b, c, d] t (0, 0))) : w.cell? ⟨g, 0, none⟩ = some a ∧ w.cell? ⟨g, 1, none⟩ = some b ∧ w.cell? ⟨g, 2, none⟩ = some c ∧ w.cell? ⟨g, 3, none⟩ = some d ∧ w.frozen? ⟨g, 0, none⟩ = false ∧ w.frozen? ⟨g, 1, none⟩ = false ∧ w.frozen? ⟨g, 2, none⟩ = false ∧ w.frozen? ⟨g, 3, none⟩ = false := ⟨(blk_cell h 0).trans rfl, (blk_cell h 1).trans rfl, (blk_cell h 2).trans rfl, (blk_cell h 3).trans rfl, blk_frozen h 0, blk_frozen h 1, blk_frozen h 2, blk_frozen h 3⟩
theorem cz5_ {a b c d e : Value} (h : w.heap[g]? = some (.cells #[a, b, c, d, e] t (0, 0))) : w.cell? ⟨g, 0, none⟩ = some a ∧ w.cell? ⟨g, 1, none⟩ = some b ∧ w.cell? ⟨g, 2, none⟩ = some c ∧ w.cell? ⟨g, 3, none⟩ = some d ∧ w.cell? ⟨g, 4, none⟩ = some e ∧ w.frozen? ⟨g, 0, none⟩ = false ∧ w.frozen? ⟨g, 1, none⟩ = false ∧ w.frozen? ⟨g, 2, none⟩ = false ∧ w.frozen? ⟨g, 3, none⟩ = false ∧ w.frozen? ⟨g, 4, none⟩ = false := ⟨(blk_cell h 0).trans rfl, (blk_cell h 1).trans rfl, (blk_cell h 2).trans rfl, (blk_cell h 3).trans rfl, (blk_cell h 4).trans rfl, blk_frozen h 0, blk_frozen h 1, blk_frozen h 2, blk_frozen h 3, blk_frozen h 4⟩
theorem cz6_ {a b c d e f : Value} (h : w.heap[g]? = some (.cells #[a, b, c, d, e, f] t (0, 0))) : w.cell? ⟨g, 0, none⟩ = some a ∧ w.cell? ⟨g, 1, none⟩ = some b ∧ w.cell? ⟨g, 2, none⟩ = some c ∧ w.cell? ⟨g, 3, none⟩ = some d ∧ w.cell? ⟨g, 4, none⟩ = some e ∧ w.cell? ⟨g, 5, none⟩ = some f ∧ w.frozen? ⟨g, 0, none⟩ = false ∧ w.frozen? ⟨g, 1, none⟩ = false ∧ w.frozen? ⟨g, 2, none⟩ = false ∧ w.frozen? ⟨g, 3, none⟩ = false ∧ w.frozen? ⟨g, 4, none⟩ = false ∧ w.frozen? ⟨g, 5, none⟩ = false := ⟨(blk_cell h 0).trans rfl, (blk_cell h 1).trans rfl, (blk_cell h 2).trans rfl, (blk_cell h 3).trans rfl, (blk_cell h 4).trans rfl, (blk_cell h 5).trans rfl, blk_frozen h 0, blk_frozen h 1, blk_frozen h 2, blk_frozen h 3, blk_frozen h 4, blk_frozen h 5⟩
theorem cz8_ {a0 a1 a2 a3 a4 a5 a6 a7 : Value} (h : w.heap[g]? = some (.cells #[a0, a1, a2, a3, a4, a5, a6, a7] t (0, 0))) : w.cell? ⟨g, 0, none⟩ = some a0 ∧ w.cell? ⟨g, 1, none⟩ = some a1 ∧ w.cell? ⟨g, 2, none⟩ = some a2 ∧ w.cell? ⟨g, 3, none⟩ = some a3 ∧ w.cell? ⟨g, 4, none⟩ = some a4 ∧ w.cell? ⟨g, 5, none⟩ = some a5 ∧ w.cell? ⟨g, 6, none⟩ = some a6 ∧ w.cell? ⟨g, 7, none⟩ = some a7 ∧ w.frozen? ⟨g, 0, none⟩ = false ∧ w.frozen? ⟨g, 1, none⟩ = false ∧ w.frozen? ⟨g, 2, none⟩ = false ∧ w.frozen? ⟨g, 3, none⟩ = false ∧ w.frozen? ⟨g, 4, none⟩ = false ∧ w.frozen? ⟨g, 5, none⟩ = false ∧ w.frozen? ⟨g, 6, none⟩ = false ∧ w.frozen? ⟨g, 7, none⟩ = false := ⟨(blk_cell h 0).trans rfl, (blk_cell h 1).trans rfl, (blk_cell h 2).trans rfl, (blk_cell h 3).trans rfl, (blk_cell h 4).trans rfl, (blk_cell h 5).trans rfl, (blk_cell h 6).trans rfl, (blk_cell h 7).trans rfl, blk_frozen h 0, blk_frozen h 1, blk_frozen h 2, blk_frozen h 3, blk_frozen h 4, blk_frozen h 5, blk_frozen h 6, blk_frozen h 7⟩
theorem blkPutU_ {cs : Array Value} {i : Nat} {v : Value} (h : w.heap[g]? = some (.cells cs t (0, 0))) : (w.setCell ⟨g, i, none⟩ v).heap[g]? = some (.cells (cs.setIfInBounds i v) t (0, 0)) := blk_put h i v rfl
theorem blkEx_ {W : World} {cs c : Array Value} (h1 : W.heap[g]? = some (.cells c t (0, 0))) (h2 : c = cs) : ∃ c, W.heap[g]? = some (.cells c t (0, 0)) ∧ c = cs := ⟨c, h1, h2⟩
theorem blkF_ {W : World} {cs cs0 : Array Value} (h : w.heap[g]? = some (.cells cs0 t (0, 0))) (k : w.heap[g]? = some (.cells cs0 t (0, 0)) → ∃ c, W.heap[g]? = some (.cells c t (0, 0)) ∧ c = cs := by intro h_; apply blkEx_; (with_reducible repeat (first | refine blk_drewN ?_ _ | refine blk_drew ?_ | refine blk_alloc ?_ _ | (apply blkFarA_; assumption) | apply blkPutU_)); exact h_; first | (simp only [List.setIfInBounds_toArray, List.set_cons_zero, List.set_cons_succ]; done) | rfl) : W.heap[g]? = some (.cells cs t (0, 0)) := by
  obtain ⟨c, h1, rfl⟩ := k h
  exact h1
theorem blkPB_ {W w1 : World} {cs cs0 : Array Value} (h : w.heap[g]? = some (.cells cs0 t (0, 0))) (hb : Below W.heap.size W w1) (k : w.heap[g]? = some (.cells cs0 t (0, 0)) → ∃ c, W.heap[g]? = some (.cells c t (0, 0)) ∧ c = cs := by intro h_; apply blkEx_; (with_reducible repeat (first | refine blk_drewN ?_ _ | refine blk_drew ?_ | refine blk_alloc ?_ _ | (apply blkFarA_; assumption) | apply blkPutU_)); exact h_; first | (simp only [List.setIfInBounds_toArray, List.set_cons_zero, List.set_cons_succ]; done) | rfl) : Aside0 (w1.heap[g]? = some (.cells cs t (0, 0))) := ⟨blk_below (blkF_ h k) hb⟩
end
section
variable {P : Program} {ops : Array Oper} {Q : Exit → Act → World → Prop}
theorem goL_ {rest : List Oper} {oi : Oper} {a : Act} {w : World} (N : Option Tmp) {f : FuncId} {fn : Func} {xs : Array Operand} {ts : Array TypeId} (hf : P.funcs[f]? = some fn) (args : Array Value)
    (h : Calls P f args w fun e w' => ∃ v, e = .returned v ∧ wpList P ops Q rest (a.put N v) w') (hd : oi.dst = N := by rfl) (hg : oi.guard = none := by rfl) (hname : (fn.name == "runtime.NumGoroutine") = false := by kernel_rfl) (hb : fn.body.isSome = true := by rfl)
    (hop : oi.op = .call { callee := .value (.func f), args := xs, argTypes := ts } := by rfl) (hargs : xs.map a.eval = args := by (try simp only [List.map_toArray, List.map_cons, List.map_nil]); first | done | rfl | (simp only [List.length_drop, List.length_take]; rfl)) : wpList P ops Q (oi :: rest) a w := goesL_ N hd hg hf hname hb args hop hargs h
theorem goN_ {oi : Oper} {N : Option Tmp} {a : Act} {w : World} {K : Act → World → Prop} {f : FuncId} {fn : Func} {xs : Array Operand} {ts : Array TypeId} (hf : P.funcs[f]? = some fn) (args : Array Value)
    (h : Calls P f args w fun e w' => ∃ v, e = .returned v ∧ K (a.put N v) w') (hname : (fn.name == "runtime.NumGoroutine") = false := by kernel_rfl) (hb : fn.body.isSome = true := by rfl) (hw : Region.wanted oi (yielded ops a.tmps) = true := by rfl) (hN : oi.dst = N := by rfl)
    (hop : oi.op = .call { callee := .value (.func f), args := xs, argTypes := ts } := by rfl) (hargs : xs.map a.eval = args := by (try simp only [List.map_toArray, List.map_cons, List.map_nil]); first | done | rfl | (simp only [List.length_drop, List.length_take]; rfl)) : if Region.wanted oi (yielded ops a.tmps) = true then Oper.wp P oi a w K Q else K (a.put N undef) w := goes_ hf hname hb args hw hN hop hargs h
theorem boxE_ {rest : List Oper} {o : Oper} {a : Act} {W : World} {N : Tmp} {cs : Array Value} {t : TypeId}
    (h : ∀ g, g = W.heap.size → ∀ w1, w1.heap[g]? = some (.cells cs t (0, 0)) → Below W.heap.size W w1 → wpList P ops Q rest (a.put o.dst (.pointer (some ⟨g, 0, none⟩))) w1)
    (hgd : o.guard = none := by rfl) (hd : o.dst = some N := by rfl)
    (hrun : (execOp a.eval o).run P W = .ok (.value (.pointer (some ⟨W.heap.size, 0, none⟩))) (W.alloc (.cells cs t (0, 0))) := by first | (go_simp; done) | (go_simp; rfl)) : wpList P ops Q (o :: rest) a W := box_event hgd hd hrun h
end
theorem neL_ {W w0 : World} {g g' : Nat} {o : Obj} (h : w0.heap[g]? = some o) (hg : g' = W.heap.size) (t : w0.heap[g]? = some o → W.heap[g]? = some o := by intro h_; (with_reducible repeat (first | refine blk_drewN ?_ _ | refine blk_drew ?_ | refine blk_alloc ?_ _ | (apply blkFarO_; assumption))); exact h_) : Aside0 (g ≠ g') := ⟨hg ▸ Nat.ne_of_lt (blk_lt (t h))⟩
theorem neG_ {W w0 : World} {g g' : Nat} {o : Obj} (h : w0.heap[g]? = some o) (hg : g' = W.heap.size) (t : w0.heap[g]? = some o → W.heap[g]? = some o := by intro h_; (with_reducible repeat (first | refine blk_drewN ?_ _ | refine blk_drew ?_ | refine blk_alloc ?_ _ | (apply blkFarO_; assumption))); exact h_) : Aside0 (g' ≠ g) := ⟨(neL_ h hg t).out.symm⟩
section
variable {P : Program} {md : Region.Mode} {ops : Array Oper} {Q : Exit → Act → World → Prop} {S : World → Prop} {ds : List Nat}
theorem oneP_ {T : Bool × List (List Nat × List Nat)} (i : Nat) (N : Option Tmp) {oi : Oper} {fuel : Nat} {l : Array Bool} {a : Act} {w : World} (l' : Array Bool) (hT : Aside0 (rtab md ops = T))
    (h : ∀ K : Act → World → Prop, Shut (∀ a' w', S w' → (S w' → wpAnyLast P md ops Q S ds fuel l' a' w') → K a' w') → if Region.wanted oi (yielded ops a.tmps) = true then Oper.wp P oi a w K Q else K (a.put N undef) w)
    (hi : ops[i]? = some oi := by rfl) (hN : oi.dst = N := by rfl) (hc : (readyT T.2 l.toList == [i] && l.toList.set i true == l'.toList) = true := by kernel_rfl) (hd : i ∉ ds := by decide) : wpAnyLast P md ops Q S ds (fuel + 1) l a w := one_ l' hi hN (one_of hT.out hc) hd h
theorem takeP_ {T : Bool × List (List Nat × List Nat)} {B : List Nat} (i : Nat) (N : Option Tmp) {oi : Oper} {v : Value} {fuel : Nat} {l : Array Bool} {a : Act} {w : World} (l' : Array Bool) (hT : Aside0 (rtab md ops = T)) (hB : Aside0 (waitsOk T.2 B = true)) (hS : S w) {a' : Act} (h : wpAnyLast P md ops Q S ds fuel l' a' w)
    (hi : ops[i]? = some oi := by rfl) (hN : oi.dst = N := by rfl) (hc : takeW T B ds l.toList l'.toList i = true := by kernel_rfl) (hQ : ∀ c a w, Q (.panic c) (a.put oi.dst v) w → Q (.panic c) a w := by exact fun _ _ _ h_ => h_)
    (hy : YieldsIf P ops S oi v a := by refine Or.inl ⟨by rfl, ?_⟩; intro w' hs_; (repeat (obtain ⟨_, hs_⟩ := hs_)); go_simp; first | with_reducible rfl | (rw [if_neg (by intro h_; (try simp only [ByteArray.size_append, ByteArray.size_extract, eq_iff_iff, iff_true] at *); omega)]; first | done | rfl)) (ha : a.put N v = a' := by simp only [Act.put, List.setIfInBounds_toArray, List.set_cons_zero, List.set_cons_succ, i64_w, i32_w]; rfl) : wpAnyLast P md ops Q S ds (fuel + 1) l a w := take_ l' hi hN (take_ofW hT.out hB.out hc) hQ hy hS ha h
end
theorem wpL24_ {P : Program} {c : Code} {Q : Exit → Act → World → Prop} {a : Act} {w W : World} {α β : Type} {d1 : Kd α} {e1 b1 : Nat} {o1 : Nat → Prop} {v1 : Value} {x1 : List α} {d2 : Kd β} {e2 b2 : Nat} {o2 : Nat → Prop} {v2 : Value} {x2 : List β} {g0 : Nat} {c0 : Array Value} {t0 : TypeId} {g1 : Nat} {c1 : Array Value} {t1 : TypeId} {g2 : Nat} {c2 : Array Value} {t2 : TypeId} {g3 : Nat} {c3 : Array Value} {t3 : TypeId}
    (k1 : d1.R e1 W b1 o1 v1 x1) (k2 : d2.R e2 W b2 o2 v2 x2) (h0 : W.heap[g0]? = some (.cells c0 t0 (0, 0))) (h1 : W.heap[g1]? = some (.cells c1 t1 (0, 0))) (h2 : W.heap[g2]? = some (.cells c2 t2 (0, 0))) (h3 : W.heap[g3]? = some (.cells c3 t3 (0, 0))) (hb : Below w.heap.size w W)
    (h : ∀ w', Aside0 (d1.R e1 w' b1 o1 v1 x1) → Aside0 (d2.R e2 w' b2 o2 v2 x2) → Aside0 (w'.heap[g0]? = some (.cells c0 t0 (0, 0))) → Aside0 (w'.heap[g1]? = some (.cells c1 t1 (0, 0))) → Aside0 (w'.heap[g2]? = some (.cells c2 t2 (0, 0))) → Aside0 (w'.heap[g3]? = some (.cells c3 t3 (0, 0))) → Aside0 (Below w.heap.size w w') → c.wp P Q a w') : c.wp P Q a W := h W ⟨k1⟩ ⟨k2⟩ ⟨h0⟩ ⟨h1⟩ ⟨h2⟩ ⟨h3⟩ ⟨hb⟩
theorem wpL25_ {P : Program} {c : Code} {Q : Exit → Act → World → Prop} {a : Act} {w W : World} {α β : Type} {d1 : Kd α} {e1 b1 : Nat} {o1 : Nat → Prop} {v1 : Value} {x1 : List α} {d2 : Kd β} {e2 b2 : Nat} {o2 : Nat → Prop} {v2 : Value} {x2 : List β} {g0 : Nat} {c0 : Array Value} {t0 : TypeId} {g1 : Nat} {c1 : Array Value} {t1 : TypeId} {g2 : Nat} {c2 : Array Value} {t2 : TypeId} {g3 : Nat} {c3 : Array Value} {t3 : TypeId} {g4 : Nat} {c4 : Array Value} {t4 : TypeId}
    (k1 : d1.R e1 W b1 o1 v1 x1) (k2 : d2.R e2 W b2 o2 v2 x2) (h0 : W.heap[g0]? = some (.cells c0 t0 (0, 0))) (h1 : W.heap[g1]? = some (.cells c1 t1 (0, 0))) (h2 : W.heap[g2]? = some (.cells c2 t2 (0, 0))) (h3 : W.heap[g3]? = some (.cells c3 t3 (0, 0))) (h4 : W.heap[g4]? = some (.cells c4 t4 (0, 0))) (hb : Below w.heap.size w W)
    (h : ∀ w', Aside0 (d1.R e1 w' b1 o1 v1 x1) → Aside0 (d2.R e2 w' b2 o2 v2 x2) → Aside0 (w'.heap[g0]? = some (.cells c0 t0 (0, 0))) → Aside0 (w'.heap[g1]? = some (.cells c1 t1 (0, 0))) → Aside0 (w'.heap[g2]? = some (.cells c2 t2 (0, 0))) → Aside0 (w'.heap[g3]? = some (.cells c3 t3 (0, 0))) → Aside0 (w'.heap[g4]? = some (.cells c4 t4 (0, 0))) → Aside0 (Below w.heap.size w w') → c.wp P Q a w') : c.wp P Q a W := h W ⟨k1⟩ ⟨k2⟩ ⟨h0⟩ ⟨h1⟩ ⟨h2⟩ ⟨h3⟩ ⟨h4⟩ ⟨hb⟩
def bits_ (n m : Nat) : Array Bool := ((List.range n).map fun i => m.testBit i).toArray
section
variable {P : Program} {md : Region.Mode} {ops : Array Oper} {Q : Exit → Act → World → Prop} {S : World → Prop} {ds : List Nat}
theorem normP_ {fuel : Nat} {l : Array Bool} {a a' : Act} {w : World} {v : Value} (N : Option Tmp) (h : wpAnyLast P md ops Q S ds fuel l a' w) (ha : a.put N v = a' := by simp only [Act.put, List.setIfInBounds_toArray, List.set_cons_zero, List.set_cons_succ, i64_w, i32_w]; rfl) : wpAnyLast P md ops Q S ds fuel l (a.put N v) w := norm_ ha h
end
theorem hc2_ {w : World} {g : Nat} {t : TypeId} {a0 a1 : Value} (h : w.heap[g]? = some (.cells #[a0, a1] t (0, 0))) : w.cell? ⟨g, 0, none⟩ = some a0 ∧ w.cell? ⟨g, 1, none⟩ = some a1 := ⟨(blk_cell h 0).trans rfl, (blk_cell h 1).trans rfl⟩
theorem hc4_ {w : World} {g : Nat} {t : TypeId} {a0 a1 a2 a3 : Value} (h : w.heap[g]? = some (.cells #[a0, a1, a2, a3] t (0, 0))) : w.cell? ⟨g, 0, none⟩ = some a0 ∧ w.cell? ⟨g, 1, none⟩ = some a1 ∧ w.cell? ⟨g, 2, none⟩ = some a2 ∧ w.cell? ⟨g, 3, none⟩ = some a3 := ⟨(blk_cell h 0).trans rfl, (blk_cell h 1).trans rfl, (blk_cell h 2).trans rfl, (blk_cell h 3).trans rfl⟩
theorem hc5_ {w : World} {g : Nat} {t : TypeId} {a0 a1 a2 a3 a4 : Value} (h : w.heap[g]? = some (.cells #[a0, a1, a2, a3, a4] t (0, 0))) : w.cell? ⟨g, 0, none⟩ = some a0 ∧ w.cell? ⟨g, 1, none⟩ = some a1 ∧ w.cell? ⟨g, 2, none⟩ = some a2 ∧ w.cell? ⟨g, 3, none⟩ = some a3 ∧ w.cell? ⟨g, 4, none⟩ = some a4 := ⟨(blk_cell h 0).trans rfl, (blk_cell h 1).trans rfl, (blk_cell h 2).trans rfl, (blk_cell h 3).trans rfl, (blk_cell h 4).trans rfl⟩
theorem hc6_ {w : World} {g : Nat} {t : TypeId} {a0 a1 a2 a3 a4 a5 : Value} (h : w.heap[g]? = some (.cells #[a0, a1, a2, a3, a4, a5] t (0, 0))) : w.cell? ⟨g, 0, none⟩ = some a0 ∧ w.cell? ⟨g, 1, none⟩ = some a1 ∧ w.cell? ⟨g, 2, none⟩ = some a2 ∧ w.cell? ⟨g, 3, none⟩ = some a3 ∧ w.cell? ⟨g, 4, none⟩ = some a4 ∧ w.cell? ⟨g, 5, none⟩ = some a5 := ⟨(blk_cell h 0).trans rfl, (blk_cell h 1).trans rfl, (blk_cell h 2).trans rfl, (blk_cell h 3).trans rfl, (blk_cell h 4).trans rfl, (blk_cell h 5).trans rfl⟩
theorem hcc2_ {w : World} {g : Nat} {t : TypeId} {a0 a1 : Value} {p : Prop} (h : w.heap[g]? = some (.cells #[a0, a1] t (0, 0))) (r : p) : w.cell? ⟨g, 0, none⟩ = some a0 ∧ w.cell? ⟨g, 1, none⟩ = some a1 ∧ p := ⟨(blk_cell h 0).trans rfl, (blk_cell h 1).trans rfl, r⟩
theorem hcc4_ {w : World} {g : Nat} {t : TypeId} {a0 a1 a2 a3 : Value} {p : Prop} (h : w.heap[g]? = some (.cells #[a0, a1, a2, a3] t (0, 0))) (r : p) : w.cell? ⟨g, 0, none⟩ = some a0 ∧ w.cell? ⟨g, 1, none⟩ = some a1 ∧ w.cell? ⟨g, 2, none⟩ = some a2 ∧ w.cell? ⟨g, 3, none⟩ = some a3 ∧ p := ⟨(blk_cell h 0).trans rfl, (blk_cell h 1).trans rfl, (blk_cell h 2).trans rfl, (blk_cell h 3).trans rfl, r⟩
theorem hcc5_ {w : World} {g : Nat} {t : TypeId} {a0 a1 a2 a3 a4 : Value} {p : Prop} (h : w.heap[g]? = some (.cells #[a0, a1, a2, a3, a4] t (0, 0))) (r : p) : w.cell? ⟨g, 0, none⟩ = some a0 ∧ w.cell? ⟨g, 1, none⟩ = some a1 ∧ w.cell? ⟨g, 2, none⟩ = some a2 ∧ w.cell? ⟨g, 3, none⟩ = some a3 ∧ w.cell? ⟨g, 4, none⟩ = some a4 ∧ p := ⟨(blk_cell h 0).trans rfl, (blk_cell h 1).trans rfl, (blk_cell h 2).trans rfl, (blk_cell h 3).trans rfl, (blk_cell h 4).trans rfl, r⟩
section
variable {P : Program} {md : Region.Mode} {ops : Array Oper} {Q : Exit → Act → World → Prop} {S : World → Prop} {ds : List Nat}
theorem pureU_ {T : Bool × List (List Nat × List Nat)} (i : Nat) (N : Option Tmp) {oi : Oper} {fuel : Nat} {l : Array Bool} {a : Act} {w : World} (l' : Array Bool) (hT : Aside0 (rtab md ops = T)) {a' : Act} (h : wpAnyLast P md ops Q S ds fuel l' a' w)
    (hi : ops[i]? = some oi := by rfl) (hN : oi.dst = N := by rfl) (hc : anyT T l.toList l'.toList i = true := by kernel_rfl) (hQ : ∀ c a w, Q (.panic c) (a.put oi.dst undef) w → Q (.panic c) a w := by exact fun _ _ _ h_ => h_)
    (hy : Yields P ops oi undef a := by exact Or.inr ⟨by rfl, rfl⟩) (ha : a.put N undef = a' := by simp only [Act.put, List.setIfInBounds_toArray, List.set_cons_zero, List.set_cons_succ, i64_w, i32_w]; rfl) : wpAnyLast P md ops Q S ds (fuel + 1) l a w := pure_ l' hi hN (any_of hT.out hc) hQ hy ha h
theorem pureZ_ {T : Bool × List (List Nat × List Nat)} (i : Nat) (N : Option Tmp) {oi : Oper} {v : Value} {fuel : Nat} {l : Array Bool} {a : Act} {w : World} (l' : Array Bool) (hT : Aside0 (rtab md ops = T)) {a' : Act} (h : wpAnyLast P md ops Q S ds fuel l' a' w)
    (hi : ops[i]? = some oi := by rfl) (hN : oi.dst = N := by rfl) (hc : anyT T l.toList l'.toList i = true := by kernel_rfl) (hQ : ∀ c a w, Q (.panic c) (a.put oi.dst v) w → Q (.panic c) a w := by exact fun _ _ _ h_ => h_)
    (hy : Yields P ops oi v a := by refine Or.inl ⟨by rfl, ?_⟩; intro w'; go_simp; first | with_reducible rfl | (rw [if_neg (by intro h_; (try simp only [ByteArray.size_append, ByteArray.size_extract, eq_iff_iff, iff_true] at *); omega)]; first | done | rfl)) (ha : a.put N v = a' := by simp only [Act.put, List.setIfInBounds_toArray, List.set_cons_zero, List.set_cons_succ, i64_w, i32_w]; rfl) : wpAnyLast P md ops Q S ds (fuel + 1) l a w := pure_ l' hi hN (any_of hT.out hc) hQ hy ha h
theorem jn_ {fuel : Nat} {l : Array Bool} {a a' : Act} {w : World} (h : wpAnyLast P md ops Q S ds fuel l a' w) (ha : a = a' := by first | (simp only [putAll, Act.put, List.setIfInBounds_toArray, List.set_cons_zero, List.set_cons_succ]; done) | (simp only [putAll, Act.put, List.setIfInBounds_toArray, List.set_cons_zero, List.set_cons_succ]; rfl)) : wpAnyLast P md ops Q S ds fuel l a w := norm_ ha h
end
theorem rpl_ {α : Type} {y v : α} (e : y = v) {p q : Prop} (H : p) (t : y = v → p → q := by intro e_ h_; first | (rw [e_]; with_reducible exact h_) | (have h2_ := (Option.bind_some _ _).symm.trans h_; rw [e_]; with_reducible exact h2_) | (have h2_ := (Option.bind_some _ _).symm.trans h_; with_reducible exact h2_) | with_reducible exact h_ | (rw [e_]; exact h_) | exact h_) : q := t e H
theorem cU_ {p q : Prop} (h : q) (t : q → p := by intro h_; repeat (first | exact h_ | (with_reducible refine Kd.C_alloc ?_ _) | (with_reducible refine Kd.C_drewN ?_ _) | (with_reducible refine Kd.C_drew ?_))) : p := t h
theorem rb_ {α : Type} {d : Kd α} {e b : Nat} {o : Nat → Prop} {v : Value} {x : List α} {w0 W w1 : World} (h : d.R e w0 b o v x) (hb : Below W.heap.size W w1) (t : d.R e w0 b o v x → d.R e W b o v x := by intro h_; (with_reducible repeat (first | apply Kd.R_alloc | apply Kd.R_drewN | apply Kd.R_drew)); exact h_) : Aside0 (d.R e w1 b o v x) := ⟨Kd.R_below (t h) hb⟩
theorem a_ {p : Prop} (h : p) : Aside0 p := ⟨h⟩
theorem nw_ {w : World} {a' : Addr} {v : Value} {gb : Nat} {p : Prop} (hw : w.cell? a' = some v) (h : w.heap.size ≤ gb) (t : w.cell? a' = some v → w.heap.size ≤ gb → p := by intro hw_ hg_; first | exact Nat.ne_of_lt (Nat.lt_of_lt_of_le (by have := World.block_lt_of_cell? _ _ hw_; first | rwa [add_block] at this | exact this) hg_) | (rw [add_block]; exact Nat.ne_of_lt (Nat.lt_of_lt_of_le (by have := World.block_lt_of_cell? _ _ hw_; first | rwa [add_block] at this | exact this) hg_)) | (show (Addr.add _ _).block ≠ _; rw [add_block]; exact Nat.ne_of_lt (Nat.lt_of_lt_of_le (by have := World.block_lt_of_cell? _ _ hw_; first | rwa [add_block] at this | exact this) hg_)) | (dsimp only; exact Nat.ne_of_lt (Nat.lt_of_lt_of_le (by have := World.block_lt_of_cell? _ _ hw_; first | rwa [add_block] at this | exact this) hg_))) : p := t hw h
theorem na_ {b gb : Nat} {p : Prop} (h : b ≠ gb) (t : b ≠ gb → p := by intro h_; first | (rw [add_block]; exact h_) | (show (Addr.add _ _).block ≠ _; rw [add_block]; exact h_) | exact h_) : p := t h
theorem ne2_ {W w0 : World} {g g' : Nat} {o : Obj} (h : w0.heap[g]? = some o) (hg : g' = W.heap.size) (t : w0.heap[g]? = some o → W.heap[g]? = some o := by intro h_; (with_reducible repeat (first | refine blk_drewN ?_ _ | refine blk_drew ?_ | refine blk_alloc ?_ _ | (apply blkFarO_; assumption))); exact h_) : Aside0 (g ≠ g') ∧ Aside0 (g' ≠ g) := ⟨neL_ h hg t, neG_ h hg t⟩
abbrev hd4_ (w : World) (g : Nat) (a0 a1 a2 a3 : Value) : Prop := w.cell? ⟨g, 0, none⟩ = some a0 ∧ w.cell? ⟨g, 1, none⟩ = some a1 ∧ w.cell? ⟨g, 2, none⟩ = some a2 ∧ w.cell? ⟨g, 3, none⟩ = some a3
abbrev hdc4_ (w : World) (g : Nat) (a0 a1 a2 a3 : Value) (p : Prop) : Prop := w.cell? ⟨g, 0, none⟩ = some a0 ∧ w.cell? ⟨g, 1, none⟩ = some a1 ∧ w.cell? ⟨g, 2, none⟩ = some a2 ∧ w.cell? ⟨g, 3, none⟩ = some a3 ∧ p
abbrev hd5_ (w : World) (g : Nat) (a0 a1 a2 a3 a4 : Value) : Prop := w.cell? ⟨g, 0, none⟩ = some a0 ∧ w.cell? ⟨g, 1, none⟩ = some a1 ∧ w.cell? ⟨g, 2, none⟩ = some a2 ∧ w.cell? ⟨g, 3, none⟩ = some a3 ∧ w.cell? ⟨g, 4, none⟩ = some a4
abbrev hdc5_ (w : World) (g : Nat) (a0 a1 a2 a3 a4 : Value) (p : Prop) : Prop := w.cell? ⟨g, 0, none⟩ = some a0 ∧ w.cell? ⟨g, 1, none⟩ = some a1 ∧ w.cell? ⟨g, 2, none⟩ = some a2 ∧ w.cell? ⟨g, 3, none⟩ = some a3 ∧ w.cell? ⟨g, 4, none⟩ = some a4 ∧ p
abbrev hd6_ (w : World) (g : Nat) (a0 a1 a2 a3 a4 a5 : Value) : Prop := w.cell? ⟨g, 0, none⟩ = some a0 ∧ w.cell? ⟨g, 1, none⟩ = some a1 ∧ w.cell? ⟨g, 2, none⟩ = some a2 ∧ w.cell? ⟨g, 3, none⟩ = some a3 ∧ w.cell? ⟨g, 4, none⟩ = some a4 ∧ w.cell? ⟨g, 5, none⟩ = some a5
theorem bb_ {w0 w w1 : World} {g : Nat} {o : Obj} (h : w0.heap[g]? = some o) (hb : Below w.heap.size w w1) (t : w0.heap[g]? = some o → w.heap[g]? = some o := by intro h_; (with_reducible repeat (first | refine blk_drewN ?_ _ | refine blk_drew ?_ | refine blk_alloc ?_ _ | (apply blkFarO_; assumption))); exact h_) : Aside0 (w1.heap[g]? = some o) := ⟨blk_below (t h) hb⟩
theorem pc_ {w W : World} {p : Addr} {v : Value} (h : Below w.heap.size w W) (hc : w.cell? p = some v) : W.cell? p = some v := pw_cell_below h hc
abbrev b_ (n m : Nat) : Array Bool := bits_ n m
section
variable {P : Program} {md : Region.Mode} {ops : Array Oper} {Q : Exit → Act → World → Prop} {S : World → Prop} {ds : List Nat}
theorem pP_ {T : Bool × List (List Nat × List Nat)} (i : Nat) (N : Option Tmp) {oi : Oper} {v : Value} {fuel : Nat} {l : Array Bool} {a : Act} {w : World} (l' : Array Bool) (hT : Aside0 (rtab md ops = T)) {a' : Act} (h : wpAnyLast P md ops Q S ds fuel l' a' w)
    (hi : ops[i]? = some oi := by rfl) (hN : oi.dst = N := by rfl) (hc : anyT T l.toList l'.toList i = true := by kernel_rfl) (hQ : ∀ c a w, Q (.panic c) (a.put oi.dst v) w → Q (.panic c) a w := by exact fun _ _ _ h_ => h_)
    (hy : Yields P ops oi v a := by refine Or.inl ⟨by rfl, ?_⟩; intro w'; go_simp; with_reducible rfl) (ha : a.put N v = a' := by simp only [Act.put, List.setIfInBounds_toArray, List.set_cons_zero, List.set_cons_succ, i64_w, i32_w]; rfl) : wpAnyLast P md ops Q S ds (fuel + 1) l a w := pure_ l' hi hN (any_of hT.out hc) hQ hy ha h
theorem qP_ {T : Bool × List (List Nat × List Nat)} (i : Nat) (N : Tmp) (n_ k_ : Nat) {oi : Oper} {v : Value} {fuel : Nat} {l : Array Bool} {a : Act} {w : World} {a' : Act} (h : wpAnyLast P md ops Q S ds fuel (b_ n_ k_) a' w) (hT : Aside0 (rtab md ops = T) := by exact HT)
    (hi : ops[i]? = some oi := by rfl) (hN : oi.dst = some N := by rfl) (hc : anyT T l.toList (b_ n_ k_).toList i = true := by kernel_rfl) (hQ : ∀ c a w, Q (.panic c) (a.put oi.dst v) w → Q (.panic c) a w := by exact fun _ _ _ h_ => h_)
    (hy : Yields P ops oi v a := by refine Or.inl ⟨by rfl, ?_⟩; intro w'; go_simp; with_reducible rfl) (ha : a.put (some N) v = a' := by simp only [Act.put, List.setIfInBounds_toArray, List.set_cons_zero, List.set_cons_succ, i64_w, i32_w]; rfl) : wpAnyLast P md ops Q S ds (fuel + 1) l a w := pP_ i (some N) (b_ n_ k_) hT h hi hN hc hQ hy ha
theorem qU_ {T : Bool × List (List Nat × List Nat)} (i : Nat) (N : Tmp) (n_ k_ : Nat) {oi : Oper} {fuel : Nat} {l : Array Bool} {a : Act} {w : World} {a' : Act} (h : wpAnyLast P md ops Q S ds fuel (b_ n_ k_) a' w) (hT : Aside0 (rtab md ops = T) := by exact HT)
    (hi : ops[i]? = some oi := by rfl) (hN : oi.dst = some N := by rfl) (hc : anyT T l.toList (b_ n_ k_).toList i = true := by kernel_rfl) (hQ : ∀ c a w, Q (.panic c) (a.put oi.dst undef) w → Q (.panic c) a w := by exact fun _ _ _ h_ => h_)
    (hy : Yields P ops oi undef a := by exact Or.inr ⟨by rfl, rfl⟩) (ha : a.put (some N) undef = a' := by simp only [Act.put, List.setIfInBounds_toArray, List.set_cons_zero, List.set_cons_succ, i64_w, i32_w]; rfl) : wpAnyLast P md ops Q S ds (fuel + 1) l a w := pureU_ i (some N) (b_ n_ k_) hT h hi hN hc hQ hy ha
theorem qT_ {T : Bool × List (List Nat × List Nat)} {B : List Nat} (i : Nat) (N : Tmp) (n_ k_ : Nat) {oi : Oper} {v : Value} {fuel : Nat} {l : Array Bool} {a : Act} {w : World} {a' : Act} (h : wpAnyLast P md ops Q S ds fuel (b_ n_ k_) a' w) (hT : Aside0 (rtab md ops = T) := by exact HT) (hB : Aside0 (waitsOk T.2 B = true) := by exact HW_) (hS : S w := by exact hHeld)
    (hi : ops[i]? = some oi := by rfl) (hN : oi.dst = some N := by rfl) (hc : takeW T B ds l.toList (b_ n_ k_).toList i = true := by kernel_rfl) (hQ : ∀ c a w, Q (.panic c) (a.put oi.dst v) w → Q (.panic c) a w := by exact fun _ _ _ h_ => h_)
    (hy : YieldsIf P ops S oi v a := by refine Or.inl ⟨by rfl, ?_⟩; intro w' hs_; (repeat (obtain ⟨_, hs_⟩ := hs_)); go_simp; first | with_reducible rfl | (rw [if_neg (by intro h_; (try simp only [ByteArray.size_append, ByteArray.size_extract, eq_iff_iff, iff_true] at *); omega)]; first | done | rfl)) (ha : a.put (some N) v = a' := by simp only [Act.put, List.setIfInBounds_toArray, List.set_cons_zero, List.set_cons_succ, i64_w, i32_w]; rfl) : wpAnyLast P md ops Q S ds (fuel + 1) l a w := takeP_ i (some N) (b_ n_ k_) hT hB hS h hi hN hc hQ hy ha
end
theorem cf2_ {W : World} {a : Addr} {g i j : Nat} {u v x : Value} (h : a.block ≠ g) (hc : W.cell? a = some x) : ((W.setCell ⟨g, i, none⟩ u).setCell ⟨g, j, none⟩ v).cell? a = some x := (cell_far (p := ⟨g, j, none⟩) h v).trans ((cell_far (p := ⟨g, i, none⟩) h u).trans hc)
theorem rl_ {p : Prop} (h : p := by first | rfl | (simp; done) | (simp [*]; done)) : p := h
theorem dr_ {w w' : World} (h : Drawn0 w w' := by repeat (first | exact Drawn0.refl _ | apply Drawn0.step)) : Drawn0 w w' := h
theorem uR_ {α : Type} {d : Kd α} {e b : Nat} {o : Nat → Prop} {v : Value} {x : List α} {w W : World} (h : d.R e w b o v x) (t : d.R e w b o v x → d.R e W b o v x := by intro h_; (with_reducible repeat (first | apply Kd.R_alloc | apply Kd.R_drewN | apply Kd.R_drew)); exact h_) : d.R e W b o v x := t h
theorem uV_ {α : Type} {d : Kd α} {e b : Nat} {o : Nat → Prop} {v : Value} {x : List α} {w W : World} (h : Kd.V d e w b o v x) (t : Kd.V d e w b o v x → Kd.V d e W b o v x := by intro h_; (with_reducible repeat (first | apply Kd.V_alloc | apply Kd.V_drewN | apply Kd.V_drew)); exact h_) : Kd.V d e W b o v x := t h
theorem uS_ {α : Type} {d : Kd α} {e b : Nat} {o : Nat → Prop} {v : Value} {x : List α} {w W : World} (h : Kd.S d e w b o v x) (t : Kd.S d e w b o v x → Kd.S d e W b o v x := by intro h_; (with_reducible repeat (first | apply Kd.S_alloc | apply Kd.S_drewN | apply Kd.S_drew)); exact h_) : Kd.S d e W b o v x := t h
theorem gcL_ {P : Program} {ops : Array Oper} {rest : List Oper} {oi : Oper} {a : Act} {w : World} {Q : Exit → Act → World → Prop} (f : FuncId) (N : Option Tmp) {fn : Func} {xs : Array Operand} {ts : Array TypeId} (hf : P.funcs[f]? = some fn) (args : Array Value)
    (h : Calls P f args w fun e w' => ∃ v, e = .returned v ∧ wpList P ops Q rest (a.put N v) w') (hd : oi.dst = N := by rfl) (hg : oi.guard = none := by rfl) (hname : (fn.name == "runtime.NumGoroutine") = false := by kernel_rfl) (hb : fn.body.isSome = true := by rfl)
    (hop : oi.op = .call { callee := .value (.func f), args := xs, argTypes := ts } := by rfl) (hargs : xs.map a.eval = args := by (try simp only [List.map_toArray, List.map_cons, List.map_nil]); first | done | rfl | (simp only [List.length_drop, List.length_take]; rfl)) : wpList P ops Q (oi :: rest) a w := goesL_ N hd hg hf hname hb args hop hargs h
theorem gcB_ {P : Program} {ops : Array Oper} {rest : List Oper} {oi : Oper} {a : Act} {w : World} {Q : Exit → Act → World → Prop} (f : FuncId) (N : Tmp) {fn : Func} {xs : Array Operand} {ts : Array TypeId} {args : Array Value} {v : Value} (hf : P.funcs[f]? = some fn) (hc : Calls P f args w fun e w' => e = .returned v ∧ Below w.heap.size w w') (K : ∀ w', Below w.heap.size w w' → wpList P ops Q rest (a.put (some N) v) w')
    (hd : oi.dst = some N := by rfl) (hg : oi.guard = none := by rfl) (hop : oi.op = .call { callee := .value (.func f), args := xs, argTypes := ts } := by rfl) (hname : (fn.name == "runtime.NumGoroutine") = false := by kernel_rfl) (hb : fn.body.isSome = true := by rfl) (hargs : xs.map a.eval = args := by (try simp only [List.map_toArray, List.map_cons, List.map_nil]); first | done | rfl | (simp only [List.length_drop, List.length_take]; rfl)) : wpList P ops Q (oi :: rest) a w := goL_ (some N) hf args (hc.mono (by rintro e w' ⟨rfl, h_⟩; exact ⟨_, rfl, K _ h_⟩)) hd hg hname hb hop hargs
theorem gcD_ {P : Program} {ops : Array Oper} {rest : List Oper} {oi : Oper} {a : Act} {w : World} {Q : Exit → Act → World → Prop} (f : FuncId) (N : Tmp) {fn : Func} {xs : Array Operand} {ts : Array TypeId} {args : Array Value} {v : Value} (hf : P.funcs[f]? = some fn) (hc : Calls P f args w fun e w' => e = .returned v ∧ Drawn0 w w') (K : ∀ nd, wpList P ops Q rest (a.put (some N) v) (w.drewN nd))
    (hd : oi.dst = some N := by rfl) (hg : oi.guard = none := by rfl) (hop : oi.op = .call { callee := .value (.func f), args := xs, argTypes := ts } := by rfl) (hname : (fn.name == "runtime.NumGoroutine") = false := by kernel_rfl) (hb : fn.body.isSome = true := by rfl) (hargs : xs.map a.eval = args := by (try simp only [List.map_toArray, List.map_cons, List.map_nil]); first | done | rfl | (simp only [List.length_drop, List.length_take]; rfl)) : wpList P ops Q (oi :: rest) a w := goL_ (some N) hf args (hc.mono (by rintro e w' ⟨rfl, ⟨nd, rfl⟩⟩; exact ⟨_, rfl, K nd⟩)) hd hg hname hb hop hargs
theorem bx_ {P : Program} {ops : Array Oper} {Q : Exit → Act → World → Prop} {rest : List Oper} {o : Oper} {a : Act} {W w : World} (N : Tmp) (cs : Array Value) (t : TypeId)
    (h : ∀ g w1, g = W.heap.size → Below W.heap.size W w1 → Aside0 (w1.heap[g]? = some (.cells cs t (0, 0))) → Aside0 (w.heap.size ≤ g) → wpList P ops Q rest (a.put (some N) (.pointer (some ⟨g, 0, none⟩))) w1) (hd : o.dst = some N := by rfl)
    (hB : Below w.heap.size w W := by repeat (first | (with_reducible first | exact HB.out | apply below_alloc | apply pw_below_drewN | apply below_drew1 | refine below_set ?_ (Aside0.out (by assumption))) | exact HB.out)) (hgd : o.guard = none := by rfl)
    (hrun : (execOp a.eval o).run P W = .ok (.value (.pointer (some ⟨W.heap.size, 0, none⟩))) (W.alloc (.cells cs t (0, 0))) := by first | (go_simp; done) | (go_simp; rfl)) : wpList P ops Q (o :: rest) a W :=
  boxE_ (N := N) (fun g hg w1 hb hbel => by rw [hd]; exact h g w1 hg hbel ⟨hb⟩ ⟨hg ▸ below_size hB⟩) hgd hd hrun
end
end Go.Proofs.Ytflckegggopdnaa.B
namespace Go.Proofs.Ytflckegggopdnaa.B
section
open Go.RowKit Go.Proofs.YtflckegggopdnaaW
section
def spec_l1In.f (a0 a1 a2 : Int) : Option (Bool) := if a0 ≥ a1 then (some (decide (a0 ≤ a2))) else (some false)
theorem spec_l1In.calls (a0 a1 a2 : Int) (r : Bool) (w : World) (h : spec_l1In.f a0 a1 a2 = some r) :
  Calls Try.prog 94 #[.int .i64 a0, .int .i64 a1, .int .i64 a2] w fun e w' => e = .returned (.bool r) ∧ Drawn0 w w' := by
 have H := h
 unfold spec_l1In.f at H
 clear h
 by_cases c4 : a0 ≥ a1
 ·rw [if_pos c4] at H
  have c0 : decide (a1 ≤ a0) = true := decide_eq_true c4
  clear c4
  obtain rfl := Option.some.inj H
  go_enter Try.func94, Try.ntmps94
  go_wp2
  go_ret
  exact ⟨rl_, dr_⟩
 ·rw [if_neg c4] at H
  have c0 : decide (a1 ≤ a0) = false := decide_eq_false c4
  clear c4
  obtain rfl := Option.some.inj H
  go_enter Try.func94, Try.ntmps94
  go_wp2
  go_ret
  exact ⟨rl_, dr_⟩
end
section
def spec_TreeSplit.l0 : Nat → Int → Int → Option (Int)
 | 0, _, _ => none
 | k + 1, x1, x0 => if (wrap64 (2 * x0)) < x1 then (spec_TreeSplit.l0 k x1 (wrap64 (2 * x0))) else (some x0)
def spec_TreeSplit.f (k : Nat) (a0 : Int) : Option (Int) := (spec_l1In.f a0 2 256).bind fun t0 => (if t0 = true then (spec_TreeSplit.l0 k a0 1) else (some 0))
theorem spec_TreeSplit.calls (k : Nat) (a0 r : Int) (w : World) (h : spec_TreeSplit.f k a0 = some r) :
  Calls Try.prog 88 #[.int .i64 a0] w fun e w' => e = .returned (.int .i64 r) ∧ Drawn0 w w' := by
 have H := h
 unfold spec_TreeSplit.f at H
 clear h
 obtain ⟨t0, A0, H⟩ := bnd_ H
 by_cases c3 : t0 = true
 ·subst c3
  rw [if_pos rfl] at H
  have H' := a_ H
  clear H
  go_enter Try.func88, Try.ntmps88
  go_wp2_with (first | (refine gcD_ 94 5 Try.func94 (spec_l1In.calls _ _ _ _ _ A0.out) ?_; intro nd))
  go_loopg [3] k (fun kq v0 w' => ∃ (x0 : Int), v0 = .int .i64 x0 ∧ Aside0 (spec_TreeSplit.l0 kq a0 x0 = some r) ∧ Aside0 (kq ≤ k) ∧ Drawn0 w w')
  case atStart => exact ⟨(1), rl_, H', ⟨Nat.le_refl _⟩, by repeat (first | exact Drawn0.refl _ | apply Drawn0.step)⟩
  case round =>
   clear H'
   (try clear c3)
   obtain ⟨x0, rfl, HA, HK1, ⟨m1, rfl⟩⟩ := hrel
   cases gk with
   | zero => exact absurd HA.out (by simp [spec_TreeSplit.l0])
   | succ k1 =>
    have H := HA.out
    clear HA
    simp only [spec_TreeSplit.l0] at H
    by_cases c4 : (wrap64 (2 * x0)) < a0
    ·rw [if_pos c4] at H
     have c0 := decide_eq_true c4
     clear c4
     have H' := a_ H
     clear H
     go_wp2
     go_roundg k1
     case measure => have := HK1.out; omega
     case rel => exact ⟨(wrap64 (2 * x0)), rl_, H', ⟨by have := HK1.out; omega⟩, by repeat (first | exact Drawn0.refl _ | apply Drawn0.step)⟩
    ·rw [if_neg c4] at H
     have c0 := decide_eq_false c4
     clear c4
     obtain rfl := Option.some.inj H
     go_wp2
     go_ret
     exact ⟨rl_, dr_⟩
 ·replace c3 := Bool.eq_false_iff.mpr c3
  subst c3
  rw [if_neg (show ¬ (false = true) by decide)] at H
  obtain rfl := Option.some.inj H
  go_enter Try.func88, Try.ntmps88
  go_wp2_with (first | (refine gcD_ 94 5 Try.func94 (spec_l1In.calls _ _ _ _ _ A0.out) ?_; intro nd))
  go_ret
  exact ⟨rl_, dr_⟩
end
section
def impl_in.f (a0 a1 a2 : Int) : Option (Bool) := if a0 ≥ a1 then (some (decide (a0 ≤ a2))) else (some false)
theorem impl_in.calls (a0 a1 a2 : Int) (r : Bool) (w : World) (h : impl_in.f a0 a1 a2 = some r) :
  Calls Try.prog 75 #[.int .i64 a0, .int .i64 a1, .int .i64 a2] w fun e w' => e = .returned (.bool r) ∧ Drawn0 w w' := by
 have H := h
 unfold impl_in.f at H
 clear h
 by_cases c4 : a0 ≥ a1
 ·rw [if_pos c4] at H
  have c0 : decide (a1 ≤ a0) = true := decide_eq_true c4
  clear c4
  obtain rfl := Option.some.inj H
  go_enter Try.func75, Try.ntmps75
  go_wp2
  go_ret
  exact ⟨rl_, dr_⟩
 ·rw [if_neg c4] at H
  have c0 : decide (a1 ≤ a0) = false := decide_eq_false c4
  clear c4
  obtain rfl := Option.some.inj H
  go_enter Try.func75, Try.ntmps75
  go_wp2
  go_ret
  exact ⟨rl_, dr_⟩
end
section
def impl_TreeSplit.l0 : Nat → Int → Int → Option (Int)
 | 0, _, _ => none
 | k + 1, x1, x0 => if (wrap64 (2 * x0)) < x1 then (impl_TreeSplit.l0 k x1 (wrap64 (x0 * 2))) else (some x0)
def impl_TreeSplit.f (k : Nat) (a0 : Int) : Option (Int) := (impl_in.f a0 2 256).bind fun t0 => (if t0 = true then (impl_TreeSplit.l0 k a0 1) else (some 0))
theorem impl_TreeSplit.calls (k : Nat) (a0 r : Int) (w : World) (h : impl_TreeSplit.f k a0 = some r) :
  Calls Try.prog 109 #[.int .i64 a0] w fun e w' => e = .returned (.int .i64 r) ∧ Drawn0 w w' := by
 have H := h
 unfold impl_TreeSplit.f at H
 clear h
 obtain ⟨t0, A0, H⟩ := bnd_ H
 by_cases c3 : t0 = true
 ·subst c3
  rw [if_pos rfl] at H
  have H' := a_ H
  clear H
  go_enter Try.func109, Try.ntmps109
  go_wp2_with (first | (refine gcD_ 75 5 Try.func75 (impl_in.calls _ _ _ _ _ A0.out) ?_; intro nd))
  go_loopg [3] k (fun kq v0 w' => ∃ (x0 : Int), v0 = .int .i64 x0 ∧ Aside0 (impl_TreeSplit.l0 kq a0 x0 = some r) ∧ Aside0 (kq ≤ k) ∧ Drawn0 w w')
  case atStart => exact ⟨(1), rl_, H', ⟨Nat.le_refl _⟩, by repeat (first | exact Drawn0.refl _ | apply Drawn0.step)⟩
  case round =>
   clear H'
   (try clear c3)
   obtain ⟨x0, rfl, HA, HK1, ⟨m1, rfl⟩⟩ := hrel
   cases gk with
   | zero => exact absurd HA.out (by simp [impl_TreeSplit.l0])
   | succ k1 =>
    have H := HA.out
    clear HA
    simp only [impl_TreeSplit.l0] at H
    by_cases c4 : (wrap64 (2 * x0)) < a0
    ·rw [if_pos c4] at H
     have c0 := decide_eq_true c4
     clear c4
     have H' := a_ H
     clear H
     go_wp2
     go_roundg k1
     case measure => have := HK1.out; omega
     case rel => exact ⟨(wrap64 (x0 * 2)), rl_, H', ⟨by have := HK1.out; omega⟩, by repeat (first | exact Drawn0.refl _ | apply Drawn0.step)⟩
    ·rw [if_neg c4] at H
     have c0 := decide_eq_false c4
     clear c4
     obtain rfl := Option.some.inj H
     go_wp2
     go_ret
     exact ⟨rl_, dr_⟩
 ·replace c3 := Bool.eq_false_iff.mpr c3
  subst c3
  rw [if_neg (show ¬ (false = true) by decide)] at H
  obtain rfl := Option.some.inj H
  go_enter Try.func109, Try.ntmps109
  go_wp2_with (first | (refine gcD_ 75 5 Try.func75 (impl_in.calls _ _ _ _ _ A0.out) ?_; intro nd))
  go_ret
  exact ⟨rl_, dr_⟩
end
end
end Go.Proofs.Ytflckegggopdnaa.B
namespace Go.Proofs.Ytflckegggopdnaa.B
section
open Go.RowKit Go.Maps Go.Proofs.YtflckegggopdnaaW
theorem mapWide : (match Try.prog.underlying 100 with | some (.array _ _) | some (.struct _) => true | _ => false) = true := by rw [Try.underlying100]
theorem mapRow : (100 : TypeId) < Try.prog.types.size := of_decide_eq_true (by kernel_rfl)
theorem mapDeep : Try.prog.keyTypeAt 2 100 = true := by kernel_rfl
theorem mapLaw : Keyed Try.prog 100 := Keyed.of_law (deep_law_laid JFacts.laidOut (m := 2) (by omega) mapRow mapDeep mapWide)
theorem mapType : Try.prog.underlying 107 = some (.map 100 29) := by kernel_rfl
theorem mapKeyType : Try.prog.keyType 100 = true := by kernel_rfl
theorem mapCells : Try.prog.cellsOf 100 = 2 := by kernel_rfl
theorem mapCell : Try.prog.cellsOf 3 = 1 := by kernel_rfl
theorem mapInt : Try.prog.underlying 3 = some (.int .i64) := by kernel_rfl
theorem mapSize : ∃ n, Try.prog.types.size + 1 = n + 2 := by
 have h : (100 : Nat) < Try.prog.types.size := mapRow
 exact ⟨Try.prog.types.size - 1, by omega⟩
def kl (a b : Int) : Lit := .string (keyBytes [.int .i64 a, .int .i64 b])
theorem mapOne (n : Nat) {a : Int} (ha : (Lit.int .i64 a).wf = true) : Try.prog.keyLits (n + 1) 3 [.int .i64 a] = some [.int .i64 a] := by
 simp only [Program.keyLits, mapInt]
 rw [if_pos ⟨trivial, ha⟩]
theorem mapTwo (n : Nat) {a b : Int} (ha : (Lit.int .i64 a).wf = true) (hb : (Lit.int .i64 b).wf = true) : Try.prog.keyLits (n + 2) 100 [.int .i64 a, .int .i64 b] = some [.int .i64 a, .int .i64 b] := by
 unfold Program.keyLits
 rw [Try.underlying100]
 show (if _ ∧ _ then _ else _) = _
 rw [if_pos ⟨by rw [mapCells]; rfl, by kernel_rfl⟩]
 simp only [List.mapM_cons, List.mapM_nil, mapCell, List.drop_zero, List.drop_succ_cons, List.take_succ_cons, List.take_zero, mapOne n ha, mapOne n hb]
 rfl
def nv (a b : Int) : Value := .agg #[.int .i64 a, .int .i64 b]
theorem mapKey {a b : Int} (ha : (Lit.int .i64 a).wf = true) (hb : (Lit.int .i64 b).wf = true) : keyOf Try.prog 100 (nv a b) = some (kl a b) := by
 obtain ⟨n, hn⟩ := mapSize
 unfold keyOf nv
 rw [Try.underlying100]
 have hf : (Value.agg #[.int .i64 a, .int .i64 b]).formed Try.prog 100 = true := by simp [Value.formed, Try.underlying100, mapCells]
 show (if (Try.prog.keyType 100 && (Value.agg #[.int .i64 a, .int .i64 b]).formed Try.prog 100) = true then _ else _) = _
 rw [if_pos (by rw [mapKeyType, hf]; rfl), hn]
 show (Try.prog.keyLits (n + 2) 100 [.int .i64 a, .int .i64 b]).map _ = _
 rw [mapTwo n ha hb]
 rfl
abbrev MapD := List (S100 × S29)
def lookD : MapD → Int → Int → Option S29
 | [], _, _ => none
 | p :: M, a, b => if p.1.f0 = a ∧ p.1.f1 = b then some p.2 else lookD M a b
def dv (d : S29) : Value := .agg #[.int .u64 d.f0, .int .u64 d.f1, .int .u64 d.f2, .int .u64 d.f3]
def okN (a b : Int) : Prop := (Lit.int .i64 a).wf = true ∧ (Lit.int .i64 b).wf = true
def dmap : MapD → DataW Value
 | [] => .map []
 | p :: M => (dmap M).put (kl p.1.f0 p.1.f1) (.held (dv p.2))
def rdM (v : Value) : Option (DataW Value × List MemPlace) := some (.held v, [])
def IsM (w : World) (b n : Nat) (M : MapD) : Prop := w.ownsMap Try.prog 100 rdM b n (dmap M) ∧ ∀ p ∈ M, okN p.1.f0 p.1.f1
theorem kl_inj {a b c d : Int} (h1 : okN a b) (h2 : okN c d) (h : kl a b = kl c d) : a = c ∧ b = d := by
 have e := mapLaw.inj (mapKey h1.1 h1.2) (by rw [h]; exact mapKey h2.1 h2.2)
 unfold nv at e
 simp at e
 exact e
theorem dmap_isMap (M : MapD) : IsMap (dmap M) := by
 induction M with
 | nil => exact ⟨[], rfl⟩
 | cons p M ih =>
  obtain ⟨es, h⟩ := ih
  show IsMap ((dmap M).put _ _)
  rw [h]
  exact ⟨_, rfl⟩
theorem look_is (M : MapD) (hM : ∀ p ∈ M, okN p.1.f0 p.1.f1) {a b : Int} (h : okN a b) (z : Value) : Maps.has (dmap M) (kl a b) = (lookD M a b).isSome ∧ (dmap M).atKey (kl a b) (.held z) = .held (match lookD M a b with | some d => dv d | none => z) := by
 induction M with
 | nil => exact ⟨rfl, rfl⟩
 | cons p M ih =>
  obtain ⟨i1, i2⟩ := ih fun q hq => hM q (List.mem_cons_of_mem _ hq)
  have hp := hM p List.mem_cons_self
  by_cases c : p.1.f0 = a ∧ p.1.f1 = b
  ·have e : lookD (p :: M) a b = some p.2 := by simp only [lookD]; rw [if_pos c]
   rw [e]
   obtain ⟨rfl, rfl⟩ := c
   have hk := mapLaw.key (mapKey hp.1 hp.2)
   exact ⟨has_put_same (dmap_isMap M) hk _, atKey_put_same (dmap_isMap M) hk _ _⟩
  ·have e : lookD (p :: M) a b = lookD M a b := by simp only [lookD]; rw [if_neg c]
   rw [e]
   have hne : kl a b ≠ kl p.1.f0 p.1.f1 := fun hh => c (by obtain ⟨x, y⟩ := kl_inj h hp hh; exact ⟨x.symm, y.symm⟩)
   exact ⟨(has_put_other hne _).trans i1, (atKey_put_other hne _ _).trans i2⟩
theorem IsM.below {w w' : World} {b n : Nat} {M : MapD} (h : IsM w b n M) (hb : Below w.heap.size w w') : IsM w' b n M := by
 obtain ⟨⟨es, c, h1, h2⟩, h3⟩ := h
 exact ⟨⟨es, c, blk_below h1 hb, h2⟩, h3⟩
theorem IsM.alloc {w : World} {b n : Nat} {M : MapD} (h : IsM w b n M) (o : Obj) : IsM (w.alloc o) b n M := ⟨h.1.alloc o, h.2⟩
theorem IsM.drew {w : World} {b n : Nat} {M : MapD} (h : IsM w b n M) : IsM w.drew b n M := ⟨h.1.drew, h.2⟩
theorem IsM.drewN {w : World} {b n : Nat} {M : MapD} (h : IsM w b n M) (m : Nat) : IsM (w.drewN m) b n M := h.below (pw_below_drewN (Below.refl _ _) m)
theorem IsM.set {w : World} {b n : Nat} {M : MapD} (h : IsM w b n M) {a : Addr} (ha : b ≠ a.block) (u : Value) : IsM (w.setCell a u) b n M := ⟨h.1.setCell ha u, h.2⟩
theorem IsM.grown {w w' : World} {b n : Nat} {M : MapD} (h : IsM w b n M) {row : Option Nat} (hg : w.grownBy w' row) (hne : some b ≠ row) : IsM w' b n M := ⟨h.1.kept hg hne, h.2⟩
theorem IsM.made (w : World) : IsM (w.alloc (.map #[] 0)) w.heap.size 0 [] := ⟨World.ownsMap_made _ _ _ _, fun p hp => by simp at hp⟩
section
variable {ops : Array Oper} {rest : List Oper} {o : Oper} {a : Act} {Q : Exit → Act → World → Prop} {w : World} {b n : Nat} {M : MapD} {x y : Int}
theorem zeroD (w : World) : (zeroValue 29).run Try.prog w = .ok (.agg #[.int .u64 0, .int .u64 0, .int .u64 0, .int .u64 0]) w := by kernel_rfl
theorem lookM_ (hI : IsM w b n M) (m k : Operand) (ok : okN x y) (hm : a.eval m = .map (some b)) (hx : a.eval k = nv x y)
  (hK : wpList Try.prog ops Q rest (a.put o.dst (.tuple #[match lookD M x y with | some d => dv d | none => .agg #[.int .u64 0, .int .u64 0, .int .u64 0, .int .u64 0], .bool (lookD M x y).isSome])) w)
  (hop : o.op = Op.lookup 107 m k true := by rfl) (hg : o.guard = none := by rfl) : wpList Try.prog ops Q (o :: rest) a w := by
 obtain ⟨l1, l2⟩ := look_is M hI.2 ok (.agg #[.int .u64 0, .int .u64 0, .int .u64 0, .int .u64 0])
 refine wpList_lookup_own_ok w hg m k 107 hop 100 29 mapLaw mapType rdM (zeroD w) (.held (.agg #[.int .u64 0, .int .u64 0, .int .u64 0, .int .u64 0])) [] rfl b n (dmap M) hm hI.1 _ (kl x y) hx (mapKey ok.1 ok.2) (fun v ps hv => ?_)
 rw [l2] at hv
 unfold rdM at hv
 simp only [Option.some.injEq, Prod.mk.injEq, DataW.held.injEq] at hv
 rw [hv.1, l1]
 exact hK
end
end
end Go.Proofs.Ytflckegggopdnaa.B
namespace Go.Proofs.Ytflckegggopdnaa.B
section
open Go.RowKit Go.Maps Go.Proofs.YtflckegggopdnaaW
instance okNDec (a b : Int) : Decidable (okN a b) := inferInstanceAs (Decidable (_ ∧ _))
def impl_lookAt.f (M : MapD) (a b : Int) : Option (Int × Int × Int × Int × Bool) := if okN a b then some (match lookD M a b with | some d => (d.f0, d.f1, d.f2, d.f3, true) | none => (0, 0, 0, 0, false)) else none
section
variable {ops : Array Oper} {rest : List Oper} {o : Oper} {a : Act} {Q : Exit → Act → World → Prop} {w : World} {mb mn : Nat} {M : MapD} {x y t1 t2 t3 t4 : Int} {t5 : Bool}
theorem goLook_ {N : Option Tmp} {m k : Operand} (hI : IsM w mb mn M) (h : impl_lookAt.f M x y = some (t1, t2, t3, t4, t5))
  (K : ∀ w', Below w.heap.size w w' → wpList Try.prog ops Q rest (a.put N (.tuple #[.agg #[.int .u64 t1, .int .u64 t2, .int .u64 t3, .int .u64 t4], .bool t5])) w')
  (hop : o.op = Op.lookup 107 m k true := by rfl) (hd : o.dst = N := by rfl) (hg : o.guard = none := by rfl) (hm : a.eval m = .map (some mb) := by rfl) (hx : a.eval k = .agg #[.int .i64 x, .int .i64 y] := by rfl) : wpList Try.prog ops Q (o :: rest) a w := by
 unfold impl_lookAt.f at h
 by_cases c : okN x y
 ·rw [if_pos c] at h
  refine lookM_ hI m k c hm hx ?_ hop hg
  rw [hd]
  have K0 := K w (Below.refl _ _)
  cases e : lookD M x y with
  | none =>
   rw [e] at h
   simp only [Option.some.injEq, Prod.mk.injEq] at h
   obtain ⟨rfl, rfl, rfl, rfl, rfl⟩ := h
   exact K0
  | some d =>
   rw [e] at h
   simp only [Option.some.injEq, Prod.mk.injEq] at h
   obtain ⟨rfl, rfl, rfl, rfl, rfl⟩ := h
   exact K0
 ·rw [if_neg c] at h
  exact absurd h (by simp)
theorem goMake_ {W : World} {N : Option Tmp} (h : ∀ g, g = W.heap.size → ∀ w1, IsM w1 g 0 [] → Below W.heap.size W w1 → wpList Try.prog ops Q rest (a.put N (.map (some g))) w1)
  (hop : o.op = Op.makeMap 107 none := by rfl) (hd : o.dst = N := by rfl) (hg : o.guard = none := by rfl) : wpList Try.prog ops Q (o :: rest) a W := by
 refine wpList_plain hg fun K' hK' => ?_
 unfold Oper.wp
 simp [execOp, hop, run_makeMap, Result.andThen]
 refine hK' _ _ ?_
 rw [hd]
 exact h _ rfl _ (IsM.made W) (below_alloc (Below.refl _ _) _)
def impl_makeAt.f : Option MapD := some []
def impl_putAt.f (M : MapD) (a b c d e f : Int) : Option MapD := if okN a b then some ((⟨a, b⟩, ⟨c, d, e, f⟩) :: M) else none
theorem isU_ {W : World} (h : IsM w mb mn M) (t : IsM w mb mn M → IsM W mb mn M := by intro h_; (with_reducible repeat (first | apply IsM.drewN | apply IsM.drew | apply IsM.alloc)); exact h_) : IsM W mb mn M := t h
theorem isFarA_ {W : World} {g j : Nat} {u : Value} (hp : Aside0 (mb ≠ g)) (h : IsM W mb mn M) : IsM (W.setCell ⟨g, j, none⟩ u) mb mn M := IsM.set h hp.out u
theorem isS_ {W : World} (h : IsM w mb mn M) (t : IsM w mb mn M → IsM W mb mn M := by intro h_; (with_reducible repeat (first | apply IsM.drewN | apply IsM.drew | apply IsM.alloc | (apply isFarA_; assumption))); exact h_) : IsM W mb mn M := t h
theorem IsM.ne (h : IsM w mb mn M) {g : Nat} {cs : Array Value} {t : TypeId} (hb : w.heap[g]? = some (.cells cs t (0, 0))) : mb ≠ g := by
 rintro rfl
 obtain ⟨⟨es, c, h1, _⟩, _⟩ := h
 rw [h1] at hb
 simp at hb
theorem R_map {α : Type} {d : Kd α} {e base : Nat} {ok : Nat → Prop} {v : Value} {xs : List α} (h : d.R e w base ok v xs) (hI : IsM w mb mn M) : d.R e w base (fun k => ok k ∧ k ≠ mb) v xs :=
 Kd.R_mono (Kd.R_bound h) (fun k hk => ⟨hk.1, fun e => by
  obtain ⟨_, _, _, q, _, cs, hc⟩ := hk
  exact hI.ne (by rw [← e] at *; exact hc) e.symm⟩)
theorem R_grownM {α : Type} {d : Kd α} {e base : Nat} {ok : Nat → Prop} {v : Value} {xs : List α} {w1 : World} (h : d.R e w base ok v xs) (hI : IsM w mb mn M) (hg : w.grownBy w1 (some mb)) : d.R e w1 base ok v xs :=
 Kd.R_mono (Kd.R_step (R_map h hI) (fun k ho hlt => hg.block k hlt (fun e => ho.2 (Option.some.inj e)))) (fun _ hk => hk.1)
theorem goPut_ {P : Program} {m k v : Operand} {K : Act → World → Prop} {c d e f : Int} {M' : MapD} (hP : P = Try.prog) (hI : IsM w mb mn M) (hA : impl_putAt.f M x y c d e f = some M') (hn : mn < maxLen)
  (h : ∀ w', IsM w' mb (mn + 1) M' → w.grownBy w' (some mb) → K (a.put none undef) w')
  (hop : o.op = Op.mapUpdate 107 m k v := by rfl) (hw : Region.wanted o (yielded ops a.tmps) = true := by rfl) (hN : o.dst = none := by rfl)
  (hm : a.eval m = .map (some mb) := by rfl) (hx : a.eval k = .agg #[.int .i64 x, .int .i64 y] := by rfl) (hv : a.eval v = .agg #[.int .u64 c, .int .u64 d, .int .u64 e, .int .u64 f] := by rfl) :
  if Region.wanted o (yielded ops a.tmps) = true then Oper.wp P o a w K Q else K (a.put none undef) w := by
 subst hP
 unfold impl_putAt.f at hA
 by_cases ok : okN x y
 ·rw [if_pos ok] at hA
  obtain rfl := Option.some.inj hA
  rw [if_pos hw]
  obtain ⟨w', hrun, r1, r2⟩ := hI.1.update mapLaw mapType hn (mapKey ok.1 ok.2) (val := .agg #[.int .u64 c, .int .u64 d, .int .u64 e, .int .u64 f]) (d := .held (.agg #[.int .u64 c, .int .u64 d, .int .u64 e, .int .u64 f])) (ps := []) rfl
  have hM : IsM w' mb (mn + 1) ((⟨x, y⟩, ⟨c, d, e, f⟩) :: M) := ⟨r1, fun p hp => by
   rcases List.mem_cons.1 hp with q | q
   ·rw [q]; exact ok
   ·exact hI.2 p q⟩
  have K0 := h w' hM r2
  unfold nv at hrun
  unfold Oper.wp
  simp only [execOp, hop, hm, hx, hv]
  simp [hrun, Result.andThen]
  show K (a.put o.dst undef) w'
  rw [hN]
  exact K0
 ·rw [if_neg ok] at hA
  exact absurd hA (by simp)
end
end
end Go.Proofs.Ytflckegggopdnaa.B
namespace Go.Proofs.Ytflckegggopdnaa.B
section
open Go.RowKit Go.Proofs.YtflckegggopdnaaW
section
theorem eqA29 (d : Nat) (w : World) (x0 y0 x1 y1 x2 y2 x3 y3 : Int) :
  (Op.equalIn (d + 2) 29 (.agg #[.int .u64 x0, .int .u64 x1, .int .u64 x2, .int .u64 x3]) (.agg #[.int .u64 y0, .int .u64 y1, .int .u64 y2, .int .u64 y3])).run Try.prog w = .ok (x0 == y0 && (x1 == y1 && (x2 == y2 && (x3 == y3)))) w := by
 refine eqA_of Try.underlying29 (by kernel_rfl) ?_
 refine eqf_cons (by rfl) (by go_simp; rfl) (by go_simp; rfl) (by go_simp) ?_
 refine eqf_cons (by rfl) (by go_simp; rfl) (by go_simp; rfl) (by go_simp) ?_
 refine eqf_cons (by rfl) (by go_simp; rfl) (by go_simp; rfl) (by go_simp) ?_
 exact eqf_last (by rfl) (by go_simp; rfl) (by go_simp; rfl) (by go_simp)
end
end
end Go.Proofs.Ytflckegggopdnaa.B
namespace Go.Proofs.Ytflckegggopdnaa.B
section
open Go.RowKit Go.Proofs.YtflckegggopdnaaW
theorem run_copy_sz (P : Program) (w : World) (dT sT ty elem : TypeId) (g o dLen dCap : Nat) (a : Addr) (sLen sCap : Nat) (cur : Array Value) (t : TypeId) (cs : List Value) (sz n : Nat)
    (hu : P.underlying dT = some (.slice elem)) (hs : (P.info? elem).map (·.size) = some sz)
    (hg : w.heap[g]? = some (.cells cur t (0, 0))) (hn : n = Nat.min sLen dLen) (hcl : cs.length = n * sz)
    (hsrc : ∀ j v, cs[j]? = some v → w.cell? (a.add j) = some v) (hfit : o + cs.length ≤ cur.size) (h1 : ∀ v ∈ cs, v.oneCell' = true) :
    (Builtin.copy_ #[dT, sT] ty #[.slice (some ⟨g, o, none⟩) dLen dCap, .slice (some a) sLen sCap]).run P w =
      .ok (goInt n) (w.setRow g (cur.toList.take o ++ cs ++ cur.toList.drop (o + cs.length)).toArray) := by
  have hl := run_loadCells_list (P := P) w a cs hsrc
  have hst := run_storeCells_at P g o t cs 0 cur w hg (by simpa using hfit) h1
  cases hq : P.info? elem with
  | none => simp [hq] at hs
  | some i =>
    have hi : i.size = sz := by simpa [hq] using hs
    simp [Builtin.copy_, run_underlying hu, Builtin.lenOf, Builtin.firstCells, sizeOf, typeInfo, hq, hi, ← hn, ← hcl, hl, hst]
section
variable {P : Program} {ops : Array Oper} {rest : List Oper} {o : Oper} {a : Act} {Q : Exit → Act → World → Prop} {α : Type}
theorem R_copy (d : Kd α) {w0 W : World} (base e : Nat) (hgd : o.guard = none) (x y : Operand) (tT sT : TypeId) (ho : o.op = .call { callee := .builtin .copy, args := #[x, y], argTypes := #[tT, sT] })
    (ht : P.underlying tT = some (.slice e)) (hsz : (P.info? e).map (·.size) = some d.sz) (hs0 : 0 < d.sz) (hMK : ∀ w w1 b ok x cs, d.K w x cs → d.M w1 b ok x cs) {v : Value} {xs ys : List α} {A : Option Addr} {c : Nat} {ok : Nat → Prop}
    (hx : a.eval x = v) (hy : a.eval y = .slice A ys.length c) (hR : d.R e W base ok v xs) (hC : d.C W A ys.length ys) (hl : xs.length = ys.length) (hp : 0 < ys.length) (HB : Below base w0 W)
    (h : ∀ w1, d.R e w1 base ok v ys → Below base w0 w1 → wpList P ops Q rest (a.put o.dst (goInt ys.length)) w1) : wpList P ops Q (o :: rest) a W := by
  refine wpList_plain hgd fun K hK => ?_
  obtain ⟨hok, inner, hown, hr⟩ := hR
  obtain ⟨h1, h2⟩ := hown
  rcases h2 with ⟨rfl, h3⟩ | ⟨g, cap, cur, rfl, hb, hg, hnc, hcm, hcs, hct⟩
  · omega
  obtain ⟨ad, rfl, _⟩ := hC.2.2 hp
  obtain ⟨cs, hcr, hcc⟩ := ReadsRow.inner_ hC
  have hone : ∀ u ∈ cs, u.oneCell' = true := by
    intro u hu
    obtain ⟨q, hq, rfl⟩ := List.mem_iff_getElem.1 hu
    have hql : q / d.sz < ys.length := by
      rw [Nat.div_lt_iff_lt_mul hs0, ← hcr.1]
      exact hq
    have hc := hcr.2 (q / d.sz) _ (List.getElem?_eq_getElem hql)
    refine d.K_one hc _ ?_
    rw [List.mem_iff_getElem?]
    refine ⟨q % d.sz, ?_⟩
    rw [List.getElem?_take, if_pos (Nat.mod_lt _ hs0), List.getElem?_drop, Nat.mul_comm, Nat.div_add_mod, List.getElem?_eq_getElem hq]
  have hfit : 0 + cs.length ≤ cur.size := by
    rw [hcr.1, hcs, Nat.zero_add]
    exact Nat.mul_le_mul_right _ (by omega)
  have hrun := run_copy_sz P W tT sT o.type e g 0 xs.length cap ad ys.length c cur e cs d.sz ys.length ht hsz hg (by rw [hl]; exact (Nat.min_self _).symm) hcr.1 hcc hfit hone
  simp only [List.take_zero, List.nil_append, Nat.zero_add] at hrun
  unfold Oper.wp
  simp [execOp, ho, resolve, invoke, builtin, hx, hy, hrun, Result.andThen]
  refine hK _ _ (h _ ⟨hok, cs, ⟨hcr.1, .inr ⟨g, cap, _, by rw [hl], hb, setRow_heap W g cur _ e _ hg, by omega, hcm, ?_, ?_⟩⟩, ?_⟩ (HB.trans ⟨rfl, rfl, rfl, by simp [World.setRow], fun k hk => setRow_other W g k _ (by omega)⟩))
  · simp only [List.size_toArray, List.length_append, List.length_drop, Array.length_toList]
    omega
  · rw [List.toList_toArray, List.take_left' hcr.1]
  · exact hcr.imp_ (fun p q hq => hMK _ _ _ _ _ _ hq)
end
end
end Go.Proofs.Ytflckegggopdnaa.B
