/- 'for _, c := range s' on a text of plain characters, and strings put behind bytes, told as calls: what they answer. Condition: the next character is a plain one. -/
import Derived.Lib.OthersKept
import Derived.Laws.RangeAny
import Derived.Laws.RangeString
import Derived.Test.YtflcbanemolkfaaZWBM
import Derived.Test.YtflcbanemolkfaaZWBK
import Derived.Test.YtflcbanemolkfaaZWBGImplPair1
namespace Go.Proofs.Ytflcbanemolkfaa.B
open Go.RowKit Go.Proofs.YtflcbanemolkfaaW.PrintWords Go.Proofs.YtflcbanemolkfaaW.PrintLast Go.Proofs.YtflcbanemolkfaaW.PrintMore
set_option linter.unusedVariables false
set_option linter.unusedSimpArgs false
set_option maxRecDepth 100000
def impl_rangeAt.f : Option Int := some 0
def impl_nextAt.f (p : Int) (s : ByteArray) : Option (Bool × Int × Int) := if 0 ≤ p ∧ p < (s.size : Int) then (if bt s p < 128 then some (true, p, bt s p) else none) else if 0 ≤ p then some (false, 0, 0) else none
def impl_stepAt.f (p : Int) (s : ByteArray) : Option Int := some (if p < (s.size : Int) then p + 1 else p)
def impl_hashRow.f (k : Nat) (a b c d : Int) : Option (List Int) := (impl_HashBytes.f k a b c d).map bytesOf
def impl_textRow.f (s : ByteArray) : Option (List Int) := some (bytesOf s)
def IsIter (w : World) (it : Nat) (s : ByteArray) (p : Int) : Prop := w.heap[it]? = some (.stringIter s p.toNat)
section
variable {w : World} {it : Nat} {s : ByteArray} {p : Int}
theorem IsIter.below {w' : World} (h : IsIter w it s p) (hb : Below w.heap.size w w') : IsIter w' it s p := blk_below h hb
theorem IsIter.alloc (h : IsIter w it s p) (o : Obj) : IsIter (w.alloc o) it s p := blk_alloc h o
theorem IsIter.drew (h : IsIter w it s p) : IsIter w.drew it s p := h
theorem IsIter.drewN (h : IsIter w it s p) (m : Nat) : IsIter (w.drewN m) it s p := h.below (pw_below_drewN (Below.refl _ _) m)
theorem IsIter.grown {w' : World} (h : IsIter w it s p) {row : Option Nat} (hg : w.grownBy w' row) (hne : some it ≠ row) : IsIter w' it s p := blk_grown h hg hne
theorem IsIter.ne (h : IsIter w it s p) {g : Nat} {cs : Array Value} {t : TypeId} (hb : w.heap[g]? = some (.cells cs t (0, 0))) : it ≠ g := by
  rintro rfl
  unfold IsIter at h
  rw [h] at hb
  simp at hb
theorem isFarI_ {W : World} {g j : Nat} {u : Value} (hp : Aside0 (it ≠ g)) (h : IsIter W it s p) : IsIter (W.setCell ⟨g, j, none⟩ u) it s p := by
  unfold IsIter at h ⊢
  rw [heap_setCell_other W ⟨g, j, none⟩ it u hp.out]
  exact h
theorem isI_ {W : World} (h : IsIter w it s p) (t : IsIter w it s p → IsIter W it s p := by intro h_; (with_reducible repeat (first | apply IsIter.drewN | apply IsIter.drew | apply IsIter.alloc | (apply isFarI_; assumption))); exact h_) : IsIter W it s p := t h
theorem R_iter {α : Type} {d : Kd α} {e base : Nat} {ok : Nat → Prop} {v : Value} {xs : List α} (h : d.R e w base ok v xs) (hI : IsIter w it s p) : d.R e w base (fun k => ok k ∧ k ≠ it) v xs :=
  Kd.R_mono (Kd.R_bound h) (fun k hk => ⟨hk.1, fun e => by
    obtain ⟨_, _, _, q, _, cs, hc⟩ := hk
    exact hI.ne (by rw [← e] at *; exact hc) e.symm⟩)
theorem R_grownI {α : Type} {d : Kd α} {e base : Nat} {ok : Nat → Prop} {v : Value} {xs : List α} {w1 : World} (h : d.R e w base ok v xs) (hI : IsIter w it s p) (hg : w.grownBy w1 (some it)) : d.R e w1 base ok v xs :=
  Kd.R_mono (Kd.R_step (R_iter h hI) (fun k ho hlt => hg.block k hlt (fun e => ho.2 (Option.some.inj e)))) (fun _ hk => hk.1)
theorem grown_iter (hI : IsIter w it s p) (q : Nat) : w.grownBy (w.iterAt it s q) (some it) :=
  ⟨rfl, rfl, rfl, by rw [Lib.iterAt_size]; exact Nat.le_refl _, fun k _ hk => Lib.iterAt_other w it k s q (fun e => hk (by rw [e]))⟩
end
section
variable {ops : Array Oper} {rest : List Oper} {o : Oper} {a : Act} {Q : Exit → Act → World → Prop} {w : World} {it : Nat} {s : ByteArray} {p t2 t3 p' : Int}
theorem goRange_ {W : World} {N : Option Tmp} {x : Operand} (hx : a.eval x = .string s) (h : ∀ g, g = W.heap.size → ∀ w1, IsIter w1 g s 0 → Below W.heap.size W w1 → wpList Try.prog ops Q rest (a.put N (.pointer (some ⟨g, 0, none⟩))) w1)
    (hop : o.op = Op.range 9 x := by rfl) (hd : o.dst = N := by rfl) (hg : o.guard = none := by rfl) : wpList Try.prog ops Q (o :: rest) a W := by
  refine wpList_plain hg fun K' hK' => ?_
  unfold Oper.wp
  simp only [execOp, hop, hx, Sem.run_bind, Sem.run_pure, Result.andThen_ok, run_range_string (P := Try.prog) W 9 s Try.underlying9]
  refine hK' _ _ ?_
  rw [hd]
  exact h _ rfl _ (World.iter_heap W s 0) (below_alloc (Below.refl _ _) _)
theorem goNextT_ {N : Option Tmp} {m : Operand} (hI : IsIter w it s p) (h : impl_nextAt.f p s = some (true, t2, t3)) (h2 : impl_stepAt.f p s = some p')
    (K : ∀ w', IsIter w' it s p' → w.grownBy w' (some it) → wpList Try.prog ops Q rest (a.put N (.tuple #[.bool true, .int .i64 t2, .int .i32 t3])) w')
    (hop : o.op = Op.next m true := by rfl) (hd : o.dst = N := by rfl) (hg : o.guard = none := by rfl) (hm : a.eval m = .pointer (some ⟨it, 0, none⟩) := by rfl) : wpList Try.prog ops Q (o :: rest) a w := by
  unfold impl_nextAt.f at h
  by_cases c : 0 ≤ p ∧ p < (s.size : Int)
  · rw [if_pos c] at h
    by_cases c2 : bt s p < 128
    · rw [if_pos c2] at h
      simp only [Option.some.injEq, Prod.mk.injEq, true_and] at h
      obtain ⟨rfl, rfl⟩ := h
      unfold impl_stepAt.f at h2
      rw [if_pos c.2] at h2
      obtain rfl := Option.some.inj h2
      have hlt : p.toNat < s.size := by omega
      have hb : ((s[p.toNat]'hlt).toNat : Int) = bt s p := bt_at s p hlt
      refine wpList_plain hg fun K' hK' => ?_
      unfold Oper.wp
      simp only [execOp, hop, hm, Sem.run_bind, Sem.run_pure, Result.andThen_ok, Lib.run_next_ascii_at (P := Try.prog) w it s p.toNat o.type hI hlt (by omega)]
      refine hK' _ _ ?_
      rw [hd, hb, show ((p.toNat : Nat) : Int) = p by omega]
      refine K _ ?_ (grown_iter hI _)
      have := Lib.iterAt_heap w it s p.toNat (p.toNat + 1) hI
      unfold IsIter
      rw [this, show (p + 1).toNat = p.toNat + 1 by omega]
    · rw [if_neg c2] at h
      exact absurd h (by simp)
  · rw [if_neg c] at h
    split at h <;> simp at h
theorem goNextF_ {N : Option Tmp} {m : Operand} (hI : IsIter w it s p) (h : impl_nextAt.f p s = some (false, t2, t3))
    (K : wpList Try.prog ops Q rest (a.put N (.tuple #[.bool false])) w)
    (hop : o.op = Op.next m true := by rfl) (hd : o.dst = N := by rfl) (hg : o.guard = none := by rfl) (hm : a.eval m = .pointer (some ⟨it, 0, none⟩) := by rfl) : wpList Try.prog ops Q (o :: rest) a w := by
  unfold impl_nextAt.f at h
  by_cases c : 0 ≤ p ∧ p < (s.size : Int)
  · rw [if_pos c] at h
    split at h <;> simp at h
  · rw [if_neg c] at h
    by_cases c2 : 0 ≤ p
    · have hlt : ¬ p.toNat < s.size := by omega
      refine wpList_plain hg fun K' hK' => ?_
      unfold Oper.wp
      simp only [execOp, hop, hm, Sem.run_bind, Sem.run_pure, Result.andThen_ok, Lib.run_next_end_at (P := Try.prog) w it s p.toNat o.type hI hlt]
      refine hK' _ _ ?_
      rw [hd]
      exact K
    · rw [if_neg c2] at h
      simp at h
theorem goAppS_ {w0 W : World} (base : Nat) (x y : Operand) {v : Value} {xs : List Int} {ok : Nat → Prop} (hs : a.eval x = v) (hx : a.eval y = .string s)
    (HO : (Kd.int .u8).R 5 W base ok v xs) (HB : Below base w0 W) (hbase : base ≤ W.heap.size) (hl : xs.length + s.size ≤ 140737488355328)
    (h : ∀ v1 w1, (Kd.int .u8).R 5 w1 base (fun _ => True) v1 (xs ++ bytesOf s) → Below base w0 w1 → W.grownBy w1 v.ownBlock → wpList Try.prog ops Q rest (a.put o.dst v1) w1)
    (ho : o.op = .call { callee := .builtin .append, args := #[x, y], argTypes := #[42, 9] } := by rfl) (hgd : o.guard = none := by rfl) : wpList Try.prog ops Q (o :: rest) a W :=
  print_append_str base hgd x y 42 9 5 ho Try.underlying42 Try.underlying9 info5 v xs s hs hx (Kd.own_of_R HO) HB hbase hl
    (fun v1 w1 h1 h2 h3 => h v1 w1 (Kd.R_of_own h1 (fun _ _ => trivial)) h2 h3)
end
end Go.Proofs.Ytflcbanemolkfaa.B
