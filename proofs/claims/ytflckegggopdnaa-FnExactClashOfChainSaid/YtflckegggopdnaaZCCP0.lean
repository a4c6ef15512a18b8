/- Texts that this claim's law leans on, without what nothing names. What each says stands at its theorems; conditions stand in them. (Put together by the session's program shake.py; Lean checks it.) -/
import Derived.Test.YtflckegggopdnaaProg
import Derived.JoinedOf
import Derived.KernelRfl
import Derived.Deep.Slices
import Derived.ChangeArms
import Derived.WideShapes
import Derived.Below
import Derived.Deep.Draws
import Derived.Deep.AppendLies
import Derived.Maps.AppendAt
import Derived.OwnWalk
import Derived.Laws.BytesArg
import Derived.Laws.MakeOwn
import Derived.Laws.OwnMore
import Derived.Deep.OwnRows
import Derived.Tactics
import Derived.Lib.ConvBytes
import Derived.Laws.Slices
import Derived.WalkKit
import Derived.RowKit3
import Derived.Deep.LoopGhost
import Derived.Deep.QuietTactic
import Derived.BigQuiet
import Derived.WideLaws
import Derived.Deep.DeepCutAuto
import Derived.Deep.CutBlock
import Derived.Deep.RegionHeld3
import Derived.Laws.Rows
import Derived.Lib.AppendStr
import Derived.ArgAppend
import Derived.Laws.IdiomCopy
import Derived.OrdersHeld
import Derived.Laws.BitsLemmas
import Derived.RowKit
import Derived.Test.YtflckegggopdnaaZCCV1
set_option maxRecDepth 100000
set_option linter.unusedVariables false
set_option linter.unusedSimpArgs false
namespace Go.Proofs.Ytflckegggopdnaa.JFacts
section
theorem band {a b : Bool} (h : a = true) (k : b = true) : (a && b) = true := by rw [h, k]; rfl
def head : List Char := [104, 97, 114, 110, 101, 115, 115, 32, 98, 102, 52, 52, 53, 52, 52, 50, 101, 49, 55, 102, 102, 53, 57, 100, 52, 99, 98, 49, 100, 50, 98, 54, 100, 51, 54, 102, 49, 56, 101, 49, 55, 51, 97, 50, 52, 56, 49, 52, 48, 102, 57, 54, 97, 55, 100, 98, 50, 48, 49, 56, 53, 102, 48, 48, 97, 48, 97, 98, 56, 52, 102, 50, 32, 99, 117, 116, 32, 97, 116, 32, 108, 111, 111, 112, 46, 101, 120, 97, 109, 112, 108, 101, 47, 98, 101, 108, 102, 114, 121, 47, 108, 97, 119, 115, 46, 70, 110, 69, 120, 97, 99, 116, 67, 104, 97, 105, 110, 69, 110, 100, 32, 108, 111, 111, 112, 46, 101, 120, 97, 109, 112, 108, 101, 47, 98, 101, 108, 102, 114, 121, 47, 108, 97, 119, 115, 46, 70, 110, 69, 120, 97, 99, 116, 67, 108, 97, 115, 104, 79, 102, 71, 114, 111, 119, 116, 104, 32, 108, 111, 111, 112, 46, 101, 120, 97, 109, 112, 108, 101, 47, 98, 101, 108, 102, 114, 121, 47, 108, 97, 119, 115, 46, 70, 110, 69, 120, 97, 99, 116, 67, 108, 97, 115, 104, 79, 102, 67, 104, 97, 105, 110, 32, 108, 111, 111, 112, 46, 101, 120, 97, 109, 112, 108, 101, 47, 98, 101, 108, 102, 114, 121, 47, 108, 97, 119, 115, 46, 70, 110, 71, 114, 111, 119, 116, 104, 80, 114, 111, 118, 101, 115, 32, 108, 111, 111, 112, 46, 101, 120, 97, 109, 112, 108, 101, 47, 98, 101, 108, 102, 114, 121, 47, 108, 97, 119, 115, 46, 70, 110, 69, 120, 97, 99, 116, 71, 114, 111, 119, 116, 104, 67, 104, 101, 99, 107, 32, 108, 111, 111, 112, 46, 101, 120, 97, 109, 112, 108, 101, 47, 98, 101, 108, 102, 114, 121, 47, 108, 97, 119, 115, 46, 70, 110, 76, 105, 102, 116, 101, 100, 32, 108, 111, 111, 112, 46, 101, 120, 97, 109, 112, 108, 101, 47, 98, 101, 108, 102, 114, 121, 47, 108, 97, 119, 115, 46, 70, 110, 69, 120, 97, 99, 116, 71, 114, 111, 119, 116, 104, 76, 105, 102, 116].map Char.ofNat
theorem signs : Try.prog.initOrder.toList = head := by
 have h : Try.prog.initOrder = String.ofList head := by kernel_rfl
 rw [h, String.toList_ofList]
def word0 : List Char := [99, 117, 116].map Char.ofNat
def others : List (List Char) := [[97, 116], [108, 111, 111, 112, 46, 101, 120, 97, 109, 112, 108, 101, 47, 98, 101, 108, 102, 114, 121, 47, 108, 97, 119, 115, 46, 70, 110, 69, 120, 97, 99, 116, 67, 104, 97, 105, 110, 69, 110, 100], [108, 111, 111, 112, 46, 101, 120, 97, 109, 112, 108, 101, 47, 98, 101, 108, 102, 114, 121, 47, 108, 97, 119, 115, 46, 70, 110, 69, 120, 97, 99, 116, 67, 108, 97, 115, 104, 79, 102, 71, 114, 111, 119, 116, 104], [108, 111, 111, 112, 46, 101, 120, 97, 109, 112, 108, 101, 47, 98, 101, 108, 102, 114, 121, 47, 108, 97, 119, 115, 46, 70, 110, 69, 120, 97, 99, 116, 67, 108, 97, 115, 104, 79, 102, 67, 104, 97, 105, 110], [108, 111, 111, 112, 46, 101, 120, 97, 109, 112, 108, 101, 47, 98, 101, 108, 102, 114, 121, 47, 108, 97, 119, 115, 46, 70, 110, 71, 114, 111, 119, 116, 104, 80, 114, 111, 118, 101, 115], [108, 111, 111, 112, 46, 101, 120, 97, 109, 112, 108, 101, 47, 98, 101, 108, 102, 114, 121, 47, 108, 97, 119, 115, 46, 70, 110, 69, 120, 97, 99, 116, 71, 114, 111, 119, 116, 104, 67, 104, 101, 99, 107], [108, 111, 111, 112, 46, 101, 120, 97, 109, 112, 108, 101, 47, 98, 101, 108, 102, 114, 121, 47, 108, 97, 119, 115, 46, 70, 110, 76, 105, 102, 116, 101, 100], [108, 111, 111, 112, 46, 101, 120, 97, 109, 112, 108, 101, 47, 98, 101, 108, 102, 114, 121, 47, 108, 97, 119, 115, 46, 70, 110, 69, 120, 97, 99, 116, 71, 114, 111, 119, 116, 104, 76, 105, 102, 116]].map fun l => l.map Char.ofNat
theorem words : behindMainWord (wordsSigns Try.prog.initOrder.toList) = word0 :: others := by
 rw [signs]
 kernel_rfl
def kindsFact (P : Program) (fn : Func) (c : OpenClaim) : Bool := c.kinds == (if c.domain.isEmpty then [] else fn.params.toList.map fun t => match P.underlying t with | some (.int k) => some k | _ => none)
theorem joined_of {P : Program} {f : FuncId} {fn : Func} {s : ChangeSpec} {c : OpenClaim}
  (h0 : c.wf (OpenSpec.ofChange s) = true) (h1 : laidOutB P = true) (h2 : mapsRowed P = true) (h3 : fn.params.all (fun x => P.readableRec x) = true) (h4 : namedTie P c.named s.vars = true)
  (h5 : (c.stops == []) = true) (h6 : (P.stops == []) = true) (h7 : (c.knobs == []) = true) (h8 : (P.stopKnobs == []) = true)
  (h9 : (c.inPlace == P.inPlace f) = true) (h10 : (c.unfollowed == P.unfollowed f) = true) (h11 : (c.recurses == P.recurses f) = true) (h12 : (c.named == P.varsNamed f) = true)
  (h13 : (c.maps == (fn.params.toList ++ s.plain.varTypes P).any (fun x => P.mapsRec x)) = true) (h14 : (c.ifaces == (fn.params.toList ++ s.plain.varTypes P).any (fun x => P.ifacesRec x)) = true) (h15 : (c.mapsOut == P.mapsAmong fn.resultTypes.toList) = true)
  (h16 : (c.loops == (fn.params.toList ++ s.plain.varTypes P).any (fun x => P.loopsFrom x)) = true) (h17 : (c.wideKeys == (fn.params.toList ++ s.plain.varTypes P ++ fn.resultTypes.toList).any (fun x => P.wideKeysFrom x)) = true)
  (h18 : s.vars.all (fun x => P.varReadable x) = true) (h19 : fn.resultTypes.all (fun t => P.readableRec t && decide (t < P.types.size)) = true) (h20 : (c.ifacesOut == fn.resultTypes.toList.any (fun x => P.ifacesRec x)) = true) (h21 : (c.loopsOut == fn.resultTypes.toList.any (fun x => P.loopsFrom x)) = true)
  (h22 : (c.plainKeys == P.plainKeys) = true) (h23 : c.shortTexts.isNone = true) (h24 : P.stopsHeard = true) (h25 : P.mayEnter = true) (h26 : (c.lifted == P.liftsFinal) = true) (h27 : (P.make == some c.make) = true)
  (h28 : kindsFact P fn c = true) (h29 : (c.pinned == c.pinnedBy) = true)
  (h30 : (c.veiled == (fn.params.toList ++ s.plain.varTypes P ++ fn.resultTypes.toList).any (fun x => P.veiledRec x)) = true) (h31 : c.veiledFits P fn.params.toList (fn.params.toList ++ s.plain.varTypes P ++ fn.resultTypes.toList) = true) : joinedFacts P f fn s c = true :=
 band (band (band (band (band (band (band (band (band (band (band (band (band (band (band (band (band (band (band (band (band (band (band (band (band (band (band (band (band (band (band h0 h1) h2) h3) h4) h5) h6) h7) h8) h9) h10) h11) h12) h13) h14) h15) h16) h17) h18) h19) h20) h21) h22) h23) h24) h25) h26) h27) h28) h29) h30) h31
theorem make_of {P : Program} {c : List Char} {rest : List (List Char)} (h : behindMainWord (wordsSigns P.initOrder.toList) = c :: rest) (h1 : (c == "gc".toList) = false) (h2 : (c == "spec".toList) = false) (h3 : (c == "cut".toList) = true) : P.make = some .cut := by
 unfold Program.make
 rw [h]
 generalize "gc".toList = g1 at h1 ⊢
 generalize "spec".toList = g2 at h2 ⊢
 generalize "cut".toList = g3 at h3 ⊢
 generalize "finals".toList = g4
 generalize "carried".toList = g5
 simp only [h1, h2, h3, Bool.or_false, Bool.true_or, if_true, Bool.false_eq_true, if_false]
theorem may_of {P : Program} {c : List Char} {rest : List (List Char)} (h : behindMainWord (wordsSigns P.initOrder.toList) = c :: rest) (e : stripLifts liftWords (c :: rest) = ([], c :: rest)) (h3 : (c == "cut".toList) = true) (hl : P.laysLater = false) (hb : P.bearsReflect = false) (hd : P.doorFits [] = true) : P.mayEnter = true := by
 unfold Program.mayEnter
 rw [h]
 generalize "cut".toList = g3 at h3 ⊢
 generalize "gc".toList = g1
 generalize "spec".toList = g2
 generalize "carried".toList = g5
 generalize "stop".toList = g6
 obtain rfl : c = g3 := by simpa using h3
 simp only [e, hl, hb, hd]
 simp
theorem lifts_of {P : Program} {c : List Char} {rest : List (List Char)} (h : behindMainWord (wordsSigns P.initOrder.toList) = c :: rest) (e : stripLifts liftWords (c :: rest) = ([], c :: rest)) (h4 : (c == "carried".toList) = false) : P.liftsFinal = false := by
 unfold Program.liftsFinal Program.headLifts
 rw [h]
 generalize "carried".toList = g5 at h4 ⊢
 generalize "gc".toList = g1
 generalize "cut".toList = g3
 have h4' : ¬ c = g5 := by simpa using h4
 simp only [e]
 simp [h4']
theorem mayEnter : Try.prog.mayEnter = true := may_of words (by kernel_rfl) (by kernel_rfl) (by kernel_rfl) (by kernel_rfl) (by kernel_rfl)
theorem lifts : Try.prog.liftsFinal = false := lifts_of words (by kernel_rfl) (by kernel_rfl)
theorem make : Try.prog.make = some .cut := make_of words (by kernel_rfl) (by kernel_rfl) (by kernel_rfl)
theorem laidOut : laidOutB Try.prog = true := by kernel_rfl
theorem mapsRowed : mapsRowed Try.prog = true := by kernel_rfl
theorem stops : (Try.prog.stops == []) = true := by kernel_rfl
theorem knobs : (Try.prog.stopKnobs == []) = true := by kernel_rfl
theorem heard : Try.prog.stopsHeard = true := by kernel_rfl
end
end Go.Proofs.Ytflckegggopdnaa.JFacts
namespace Go.Proofs.Ytflckegggopdnaa.Opening
section
open Go.Proofs.YtflckegggopdnaaW Go.Deep Go.WideShapes
variable {P : Program} {α β : Type}
def Opens (P : Program) (d : Kd α) (t : TypeId) (ok : α → Prop) : Prop :=
 ∀ (H : Type) (enc : TypeId × Value → H) (w : World) (fuel : Nat) (cs : List Value) (x : DataW H × List MemPlace),
  DataW.trod enc P w 0 (fun _ => true) true fuel t cs = some x → ∃ y : α, d.K w y cs ∧ ok y
theorem opens_int {t : TypeId} {k : IntKind} (ht : P.underlying t = some (.int k)) : Opens P (Kd.int k) t (fun y => (Lit.int k y).wf = true) := by
 intro H enc w fuel cs x h
 obtain ⟨n, rfl, _, hw⟩ := DataW.trod_int ht h
 exact ⟨n, rfl, hw⟩
theorem opens_string {t : TypeId} (ht : P.underlying t = some .string) : Opens P Kd.string t (fun s => s.size ≤ 9223372036854775807) := by
 intro H enc w fuel cs x h
 obtain ⟨n, rfl, _, hm⟩ := DataW.trod_string ht h
 unfold maxLen at hm
 exact ⟨n, rfl, hm⟩
theorem list_of {p : Nat → α → Prop} : ∀ {n : Nat}, (∀ i, i < n → ∃ y, p i y) → ∃ l : List α, l.length = n ∧ ∀ i y, l[i]? = some y → p i y
 | 0, _ => ⟨[], rfl, fun i y h => by simp at h⟩
 | n + 1, h => by
  obtain ⟨l, hl, hp⟩ := list_of (n := n) (fun i hi => h i (Nat.lt_succ_of_lt hi))
  obtain ⟨y, hy⟩ := h n (Nat.lt_succ_self n)
  refine ⟨l ++ [y], by simp [hl], fun i z hz => ?_⟩
  rcases Nat.lt_or_ge i l.length with hi | hi
  ·rw [List.getElem?_append_left hi] at hz
   exact hp i z hz
  ·have hi' : i = n := by
    have := (List.getElem?_eq_some_iff.1 hz).1
    simp at this
    omega
   subst hi'
   have : y = z := by simpa [← hl] using hz
   subst this
   exact hy
theorem opens_slice {d : Kd α} {t e : TypeId} {ok : α → Prop} (ht : P.underlying t = some (.slice e)) (hc : P.cellsOf e = d.sz) (hd : Opens P d e ok) :
  Opens P (Kd.slice e d) t (fun l => l.length ≤ 9223372036854775807 ∧ ∀ y ∈ l, ok y) := by
 intro H enc w fuel cs x h
 rcases open_slice ht h with ⟨rfl, _⟩ | ⟨a, len, cap, m, n, D, Pl, rfl, _, hl, hm, hmm, _, hx⟩
 ·exact ⟨[], ⟨none, 0, rfl, Nat.le_refl _, rfl, by simp, fun h0 => absurd h0 (by simp)⟩, by simp, fun y hy => absurd hy (by simp)⟩
 ·have hm' : m = cap := by simpa using hmm
  unfold maxLen at hm
  obtain ⟨ys, hlen, hys⟩ := list_of (n := len) (p := fun i y => (∃ c, c.length = d.sz ∧ d.K w y c ∧ ∀ j u, c[j]? = some u → w.cell? (a.add (i * d.sz + j)) = some u) ∧ ok y) (fun i hi => by
   obtain ⟨cs', h1, h2⟩ := hx i (by omega)
   obtain ⟨y, hy, hk⟩ := hd H enc w n cs' _ h2
   obtain ⟨_, hcl, hcell⟩ := World.cells?_some h1
   refine ⟨y, ⟨cs', by rw [hcl, hc], hy, fun j u hu => ?_⟩, hk⟩
   have hj : j < P.cellsOf e := by rw [← hcl]; exact (List.getElem?_eq_some_iff.1 hu).1
   rw [← hu, ← hcell j hj, Go.Deep.add_add, hc])
  refine ⟨ys, ⟨some a, cap, by rw [hlen], by rw [hlen]; exact hl, rfl, by rw [hlen]; omega, fun _ => ⟨a, rfl, fun j p hj => (hys j p hj).1⟩⟩, by rw [hlen]; omega, fun y hy => ?_⟩
  obtain ⟨i, hi⟩ := List.getElem?_of_mem hy
  exact (hys i y hi).2
def OpensF (P : Program) (d : Kd α) (fs : List Field) (off : Nat) (ok : α → Prop) : Prop :=
 ∀ (H : Type) (enc : TypeId × Value → H) (w : World) (m : Nat) (cs : List Value),
  (∀ f ∈ fs, ∃ x, DataW.trod enc P w 0 (fun _ => true) true m f.type ((cs.drop f.offset).take (P.cellsOf f.type)) = some x) → cs.length = off + d.sz → ∃ y : α, d.K w y (cs.drop off) ∧ ok y
theorem opensF_last {d : Kd α} {f : Field} {off : Nat} {ok : α → Prop} (ho : f.offset = off) (hc : P.cellsOf f.type = d.sz) (hd : Opens P d f.type ok) : OpensF P d [f] off ok := by
 intro H enc w m cs h hl
 obtain ⟨x, hx⟩ := h f (by simp)
 rw [ho, hc, List.take_of_length_le (by rw [List.length_drop]; omega)] at hx
 exact hd H enc w m _ _ hx
theorem opensF_cons {d : Kd α} {d' : Kd β} {f : Field} {fs : List Field} {off off' : Nat} {ok : α → Prop} {ok' : β → Prop} (ho : f.offset = off) (hc : P.cellsOf f.type = d.sz) (hd : Opens P d f.type ok)
  (hn : off' = off + d.sz) (hs : OpensF P d' fs off' ok') : OpensF P (Kd.pair d d') (f :: fs) off (fun y => ok y.1 ∧ ok' y.2) := by
 intro H enc w m cs h hl
 obtain ⟨x, hx⟩ := h f (by simp)
 have hl' : cs.length = off + (d.sz + d'.sz) := hl
 rw [ho, hc] at hx
 obtain ⟨y, hy, hk⟩ := hd H enc w m _ _ hx
 obtain ⟨z, hz, hk'⟩ := hs H enc w m cs (fun g hg => h g (by simp [hg])) (by omega)
 refine ⟨(y, z), ⟨(cs.drop off).take d.sz, cs.drop off', ?_, hy, hz⟩, hk, hk'⟩
 rw [hn, ← List.drop_drop, List.take_append_drop]
theorem opens_struct {d : Kd α} {t : TypeId} {fs : Array Field} {ok : α → Prop} {f : β → α} {g : α → β} (ht : P.underlying t = some (.struct fs)) (hc : P.cellsOf t = d.sz) (hfg : ∀ y, f (g y) = y)
  (hs : OpensF P d fs.toList 0 ok) : Opens P (Kd.iso d f) t (fun y => ok (f y)) := by
 intro H enc w fuel cs x h
 obtain ⟨xs, n, _, _, hl, hlen, hf⟩ := DataW.trod_struct ht h
 obtain ⟨y, hy, hk⟩ := hs H enc w n cs (fun q hq => by
  obtain ⟨i, hi⟩ := List.getElem?_of_mem hq
  have hi2 : fs[i]? = some q := by simpa using hi
  have hlt : i < xs.length := by rw [hlen]; exact (Array.getElem?_eq_some_iff.1 hi2).1
  exact ⟨xs[i], by rw [hf i q hi2]; exact List.getElem?_eq_getElem hlt⟩) (by rw [hl, hc]; omega)
 refine ⟨g y, ?_, by show ok (f (g y)); rw [hfg]; exact hk⟩
 show d.K w (f (g y)) cs
 rw [hfg]
 exact hy
end
end Go.Proofs.Ytflckegggopdnaa.Opening
namespace Go.Proofs.Ytflckegggopdnaa.B
section
open Go.RowKit Go.Proofs.YtflckegggopdnaaW
def errW : Option Int → Value
  | none => .nilIface
  | some c => .iface 0 (.int .i64 c)
theorem errW_none : errW none = .nilIface := rfl
theorem errW_some (c : Int) : errW (some c) = .iface 0 (.int .i64 c) := rfl
theorem info5 : (Try.prog.info? 5).map (fun i => (i.zero, i.size, i.bytes)) = some (some (.int .u8 0), 1, 1) := by kernel_rfl
theorem info9 : (Try.prog.info? 9).map (fun i => (i.zero, i.size, i.bytes)) = some (some (.string ⟨#[]⟩), 1, 16) := by kernel_rfl
theorem info29 : (Try.prog.info? 29).map (fun i => (i.zero, i.size, i.bytes)) = some (some (.agg #[(.int .u64 0), (.int .u64 0), (.int .u64 0), (.int .u64 0)]), 4, 32) := by kernel_rfl
theorem info51 : (Try.prog.info? 51).map (fun i => (i.zero, i.size, i.bytes)) = some (some (.agg #[(.int .i64 0), (.int .u64 0), (.int .u64 0), (.int .u64 0), (.int .u64 0), (.slice none 0 0)]), 6, 64) := by kernel_rfl
theorem info100 : (Try.prog.info? 100).map (fun i => (i.zero, i.size, i.bytes)) = some (some (.agg #[(.int .i64 0), (.int .i64 0)]), 2, 16) := by kernel_rfl
theorem info128 : (Try.prog.info? 128).map (fun i => (i.zero, i.size, i.bytes)) = some (some (.agg #[(.int .u64 0), (.int .u64 0), (.int .u64 0), (.int .u64 0), (.int .u64 0), (.int .u64 0), (.int .u64 0), (.int .u64 0)]), 8, 64) := by kernel_rfl
structure S24 where
  f0 : Int
  f1 : Int
  f2 : Int
  f3 : Int
def z24 : S24 := ⟨(0 : Int), (0 : Int), (0 : Int), (0 : Int)⟩
def k24 : Kd S24 := Kd.iso (Kd.pair (Kd.int .u64) (Kd.pair (Kd.int .u64) (Kd.pair (Kd.int .u64) (Kd.int .u64)))) (fun x : S24 => (x.f0, x.f1, x.f2, x.f3))
theorem k24_open {w : World} {x : S24} {cs : List Value} (h : k24.K w x cs) : cs = [.int .u64 x.f0, .int .u64 x.f1, .int .u64 x.f2, .int .u64 x.f3] := by
  obtain ⟨_, _, rfl, rfl, ⟨_, _, rfl, rfl, ⟨_, _, rfl, rfl, rfl⟩⟩⟩ := h
  exact rfl
def rd_T24 (xs : List S24) (i : Int) : S24 := xs.getD i.toNat z24
theorem at_T24 {w : World} {A : Option Addr} {n : Nat} {xs : List S24} (h : Kd.C k24 w A n xs) (i : Int) (h0 : 0 ≤ i) (h1 : i < n) : ∃ ad , A = some ad ∧ w.cell? (ad.add (i.toNat * 4)) = some (.int .u64 (rd_T24 xs i).f0) ∧ w.cell? ⟨(ad.add (i.toNat * 4)).block, (ad.add (i.toNat * 4)).off + 1, none⟩ = some (.int .u64 (rd_T24 xs i).f1) ∧ w.cell? ⟨(ad.add (i.toNat * 4)).block, (ad.add (i.toNat * 4)).off + 2, none⟩ = some (.int .u64 (rd_T24 xs i).f2) ∧ w.cell? ⟨(ad.add (i.toNat * 4)).block, (ad.add (i.toNat * 4)).off + 3, none⟩ = some (.int .u64 (rd_T24 xs i).f3) := by
  obtain ⟨ad, c, e, _, hK, hc0⟩ := Kd.C_get h z24 i h0 h1
  have hc : ∀ j u, c[j]? = some u → w.cell? (ad.add (i.toNat * 4 + j)) = some u := hc0
  obtain rfl := k24_open hK
  exact ⟨ad, e, hc 0 _ rfl, by rw [← add_field _ _ 1 (by omega)]; exact hc 1 _ rfl, by rw [← add_field _ _ 2 (by omega)]; exact hc 2 _ rfl, by rw [← add_field _ _ 3 (by omega)]; exact hc 3 _ rfl⟩
structure S26 where
  f0 : Int
  f1 : S24
def z26 : S26 := ⟨(0 : Int), z24⟩
def k26 : Kd S26 := Kd.iso (Kd.pair (Kd.int .i64) k24) (fun x : S26 => (x.f0, x.f1))
theorem k26_open {w : World} {x : S26} {cs : List Value} (h : k26.K w x cs) : cs = [.int .i64 x.f0, .int .u64 x.f1.f0, .int .u64 x.f1.f1, .int .u64 x.f1.f2, .int .u64 x.f1.f3] := by
  obtain ⟨_, _, rfl, rfl, s1⟩ := h
  obtain rfl := k24_open s1
  exact rfl
structure S42 where
  f0 : S26
  f1 : (List S24)
def z42 : S42 := ⟨z26, ([] : List S24)⟩
def k42 : Kd S42 := Kd.iso (Kd.pair k26 (Kd.slice 24 k24)) (fun x : S42 => (x.f0, x.f1))
theorem k42_open {w : World} {x : S42} {cs : List Value} (h : k42.K w x cs) : ∃ A5 c5, cs = [.int .i64 x.f0.f0, .int .u64 x.f0.f1.f0, .int .u64 x.f0.f1.f1, .int .u64 x.f0.f1.f2, .int .u64 x.f0.f1.f3, .slice A5 x.f1.length c5] ∧ x.f1.length ≤ c5 ∧ k24.C w A5 x.f1.length x.f1 := by
  obtain ⟨_, _, rfl, s0, ⟨A5, c5, rfl, l5, g5⟩⟩ := h
  obtain rfl := k26_open s0
  exact ⟨A5, c5, rfl, l5, g5⟩
def rd_T42 (xs : List S42) (i : Int) : S42 := xs.getD i.toNat z42
theorem at_T42 {w : World} {A : Option Addr} {n : Nat} {xs : List S42} (h : Kd.C k42 w A n xs) (i : Int) (h0 : 0 ≤ i) (h1 : i < n) : ∃ ad A5 c5, A = some ad ∧ w.cell? (ad.add (i.toNat * 6)) = some (.int .i64 (rd_T42 xs i).f0.f0) ∧ w.cell? ⟨(ad.add (i.toNat * 6)).block, (ad.add (i.toNat * 6)).off + 1, none⟩ = some (.int .u64 (rd_T42 xs i).f0.f1.f0) ∧ w.cell? ⟨(ad.add (i.toNat * 6)).block, (ad.add (i.toNat * 6)).off + 2, none⟩ = some (.int .u64 (rd_T42 xs i).f0.f1.f1) ∧ w.cell? ⟨(ad.add (i.toNat * 6)).block, (ad.add (i.toNat * 6)).off + 3, none⟩ = some (.int .u64 (rd_T42 xs i).f0.f1.f2) ∧ w.cell? ⟨(ad.add (i.toNat * 6)).block, (ad.add (i.toNat * 6)).off + 4, none⟩ = some (.int .u64 (rd_T42 xs i).f0.f1.f3) ∧ w.cell? ⟨(ad.add (i.toNat * 6)).block, (ad.add (i.toNat * 6)).off + 5, none⟩ = some (.slice A5 (rd_T42 xs i).f1.length c5) ∧ (rd_T42 xs i).f1.length ≤ c5 ∧ k24.C w A5 (rd_T42 xs i).f1.length (rd_T42 xs i).f1 := by
  obtain ⟨ad, c, e, _, hK, hc0⟩ := Kd.C_get h z42 i h0 h1
  have hc : ∀ j u, c[j]? = some u → w.cell? (ad.add (i.toNat * 6 + j)) = some u := hc0
  obtain ⟨A5, c5, rfl, l5, g5⟩ := k42_open hK
  exact ⟨ad, A5, c5, e, hc 0 _ rfl, by rw [← add_field _ _ 1 (by omega)]; exact hc 1 _ rfl, by rw [← add_field _ _ 2 (by omega)]; exact hc 2 _ rfl, by rw [← add_field _ _ 3 (by omega)]; exact hc 3 _ rfl, by rw [← add_field _ _ 4 (by omega)]; exact hc 4 _ rfl, by rw [← add_field _ _ 5 (by omega)]; exact hc 5 _ rfl, l5, g5⟩
structure S29 where
  f0 : Int
  f1 : Int
  f2 : Int
  f3 : Int
def z29 : S29 := ⟨(0 : Int), (0 : Int), (0 : Int), (0 : Int)⟩
def k29 : Kd S29 := Kd.iso (Kd.pair (Kd.int .u64) (Kd.pair (Kd.int .u64) (Kd.pair (Kd.int .u64) (Kd.int .u64)))) (fun x : S29 => (x.f0, x.f1, x.f2, x.f3))
theorem k29_open {w : World} {x : S29} {cs : List Value} (h : k29.K w x cs) : cs = [.int .u64 x.f0, .int .u64 x.f1, .int .u64 x.f2, .int .u64 x.f3] := by
  obtain ⟨_, _, rfl, rfl, ⟨_, _, rfl, rfl, ⟨_, _, rfl, rfl, rfl⟩⟩⟩ := h
  exact rfl
theorem k29_openM {w : World} {base : Nat} {ok : Nat → Prop} {x : S29} {cs : List Value} (h : k29.M w base ok x cs) : cs = [.int .u64 x.f0, .int .u64 x.f1, .int .u64 x.f2, .int .u64 x.f3] := by
  obtain ⟨_, _, rfl, rfl, ⟨_, _, rfl, rfl, ⟨_, _, rfl, rfl, rfl⟩⟩⟩ := h
  exact rfl
theorem k29_mkM (w : World) (base : Nat) (ok : Nat → Prop) (x : S29)  : k29.M w base ok x [.int .u64 x.f0, .int .u64 x.f1, .int .u64 x.f2, .int .u64 x.f3] := ⟨[.int .u64 x.f0], [.int .u64 x.f1, .int .u64 x.f2, .int .u64 x.f3], rfl, rfl, ⟨[.int .u64 x.f1], [.int .u64 x.f2, .int .u64 x.f3], rfl, rfl, ⟨[.int .u64 x.f2], [.int .u64 x.f3], rfl, rfl, rfl⟩⟩⟩
def rd_T29 (xs : List S29) (i : Int) : S29 := xs.getD i.toNat z29
theorem at_T29 {w : World} {A : Option Addr} {n : Nat} {xs : List S29} (h : Kd.C k29 w A n xs) (i : Int) (h0 : 0 ≤ i) (h1 : i < n) : ∃ ad , A = some ad ∧ w.cell? (ad.add (i.toNat * 4)) = some (.int .u64 (rd_T29 xs i).f0) ∧ w.cell? ⟨(ad.add (i.toNat * 4)).block, (ad.add (i.toNat * 4)).off + 1, none⟩ = some (.int .u64 (rd_T29 xs i).f1) ∧ w.cell? ⟨(ad.add (i.toNat * 4)).block, (ad.add (i.toNat * 4)).off + 2, none⟩ = some (.int .u64 (rd_T29 xs i).f2) ∧ w.cell? ⟨(ad.add (i.toNat * 4)).block, (ad.add (i.toNat * 4)).off + 3, none⟩ = some (.int .u64 (rd_T29 xs i).f3) := by
  obtain ⟨ad, c, e, _, hK, hc0⟩ := Kd.C_get h z29 i h0 h1
  have hc : ∀ j u, c[j]? = some u → w.cell? (ad.add (i.toNat * 4 + j)) = some u := hc0
  obtain rfl := k29_open hK
  exact ⟨ad, e, hc 0 _ rfl, by rw [← add_field _ _ 1 (by omega)]; exact hc 1 _ rfl, by rw [← add_field _ _ 2 (by omega)]; exact hc 2 _ rfl, by rw [← add_field _ _ 3 (by omega)]; exact hc 3 _ rfl⟩
structure S31 where
  f0 : Int
  f1 : S29
def z31 : S31 := ⟨(0 : Int), z29⟩
def k31 : Kd S31 := Kd.iso (Kd.pair (Kd.int .i64) k29) (fun x : S31 => (x.f0, x.f1))
theorem k31_open {w : World} {x : S31} {cs : List Value} (h : k31.K w x cs) : cs = [.int .i64 x.f0, .int .u64 x.f1.f0, .int .u64 x.f1.f1, .int .u64 x.f1.f2, .int .u64 x.f1.f3] := by
  obtain ⟨_, _, rfl, rfl, s1⟩ := h
  obtain rfl := k29_open s1
  exact rfl
theorem k31_openM {w : World} {base : Nat} {ok : Nat → Prop} {x : S31} {cs : List Value} (h : k31.M w base ok x cs) : cs = [.int .i64 x.f0, .int .u64 x.f1.f0, .int .u64 x.f1.f1, .int .u64 x.f1.f2, .int .u64 x.f1.f3] := by
  obtain ⟨_, _, rfl, rfl, s1⟩ := h
  obtain rfl := k29_openM s1
  exact rfl
theorem k31_mkM (w : World) (base : Nat) (ok : Nat → Prop) (x : S31)  : k31.M w base ok x [.int .i64 x.f0, .int .u64 x.f1.f0, .int .u64 x.f1.f1, .int .u64 x.f1.f2, .int .u64 x.f1.f3] := ⟨[.int .i64 x.f0], [.int .u64 x.f1.f0, .int .u64 x.f1.f1, .int .u64 x.f1.f2, .int .u64 x.f1.f3], rfl, rfl, (k29_mkM w base ok x.f1 )⟩
structure S51 where
  f0 : S31
  f1 : (List S29)
def z51 : S51 := ⟨z31, ([] : List S29)⟩
def k51 : Kd S51 := Kd.iso (Kd.pair k31 (Kd.slice 29 k29)) (fun x : S51 => (x.f0, x.f1))
theorem k51_open {w : World} {x : S51} {cs : List Value} (h : k51.K w x cs) : ∃ A5 c5, cs = [.int .i64 x.f0.f0, .int .u64 x.f0.f1.f0, .int .u64 x.f0.f1.f1, .int .u64 x.f0.f1.f2, .int .u64 x.f0.f1.f3, .slice A5 x.f1.length c5] ∧ x.f1.length ≤ c5 ∧ k29.C w A5 x.f1.length x.f1 := by
  obtain ⟨_, _, rfl, s0, ⟨A5, c5, rfl, l5, g5⟩⟩ := h
  obtain rfl := k31_open s0
  exact ⟨A5, c5, rfl, l5, g5⟩
theorem k51_openM {w : World} {base : Nat} {ok : Nat → Prop} {x : S51} {cs : List Value} (h : k51.M w base ok x cs) : ∃ v5, cs = [.int .i64 x.f0.f0, .int .u64 x.f0.f1.f0, .int .u64 x.f0.f1.f1, .int .u64 x.f0.f1.f2, .int .u64 x.f0.f1.f3, v5] ∧ k29.R 29 w base ok v5 x.f1 := by
  obtain ⟨_, _, rfl, s0, ⟨v5, rfl, g5⟩⟩ := h
  obtain rfl := k31_openM s0
  exact ⟨v5, rfl, g5⟩
theorem k51_mkM (w : World) (base : Nat) (ok : Nat → Prop) (x : S51) {v5 : Value} (g5 : k29.R 29 w base ok v5 x.f1) : k51.M w base ok x [.int .i64 x.f0.f0, .int .u64 x.f0.f1.f0, .int .u64 x.f0.f1.f1, .int .u64 x.f0.f1.f2, .int .u64 x.f0.f1.f3, v5] := ⟨[.int .i64 x.f0.f0, .int .u64 x.f0.f1.f0, .int .u64 x.f0.f1.f1, .int .u64 x.f0.f1.f2, .int .u64 x.f0.f1.f3], [v5], rfl, (k31_mkM w base ok x.f0 ), ⟨v5, rfl, g5⟩⟩
def rd_T51 (xs : List S51) (i : Int) : S51 := xs.getD i.toNat z51
theorem at_T51 {w : World} {A : Option Addr} {n : Nat} {xs : List S51} (h : Kd.C k51 w A n xs) (i : Int) (h0 : 0 ≤ i) (h1 : i < n) : ∃ ad A5 c5, A = some ad ∧ w.cell? (ad.add (i.toNat * 6)) = some (.int .i64 (rd_T51 xs i).f0.f0) ∧ w.cell? ⟨(ad.add (i.toNat * 6)).block, (ad.add (i.toNat * 6)).off + 1, none⟩ = some (.int .u64 (rd_T51 xs i).f0.f1.f0) ∧ w.cell? ⟨(ad.add (i.toNat * 6)).block, (ad.add (i.toNat * 6)).off + 2, none⟩ = some (.int .u64 (rd_T51 xs i).f0.f1.f1) ∧ w.cell? ⟨(ad.add (i.toNat * 6)).block, (ad.add (i.toNat * 6)).off + 3, none⟩ = some (.int .u64 (rd_T51 xs i).f0.f1.f2) ∧ w.cell? ⟨(ad.add (i.toNat * 6)).block, (ad.add (i.toNat * 6)).off + 4, none⟩ = some (.int .u64 (rd_T51 xs i).f0.f1.f3) ∧ w.cell? ⟨(ad.add (i.toNat * 6)).block, (ad.add (i.toNat * 6)).off + 5, none⟩ = some (.slice A5 (rd_T51 xs i).f1.length c5) ∧ (rd_T51 xs i).f1.length ≤ c5 ∧ k29.C w A5 (rd_T51 xs i).f1.length (rd_T51 xs i).f1 := by
  obtain ⟨ad, c, e, _, hK, hc0⟩ := Kd.C_get h z51 i h0 h1
  have hc : ∀ j u, c[j]? = some u → w.cell? (ad.add (i.toNat * 6 + j)) = some u := hc0
  obtain ⟨A5, c5, rfl, l5, g5⟩ := k51_open hK
  exact ⟨ad, A5, c5, e, hc 0 _ rfl, by rw [← add_field _ _ 1 (by omega)]; exact hc 1 _ rfl, by rw [← add_field _ _ 2 (by omega)]; exact hc 2 _ rfl, by rw [← add_field _ _ 3 (by omega)]; exact hc 3 _ rfl, by rw [← add_field _ _ 4 (by omega)]; exact hc 4 _ rfl, by rw [← add_field _ _ 5 (by omega)]; exact hc 5 _ rfl, l5, g5⟩
structure S100 where
  f0 : Int
  f1 : Int
def z100 : S100 := ⟨(0 : Int), (0 : Int)⟩
def k100 : Kd S100 := Kd.iso (Kd.pair (Kd.int .i64) (Kd.int .i64)) (fun x : S100 => (x.f0, x.f1))
theorem k100_open {w : World} {x : S100} {cs : List Value} (h : k100.K w x cs) : cs = [.int .i64 x.f0, .int .i64 x.f1] := by
  obtain ⟨_, _, rfl, rfl, rfl⟩ := h
  exact rfl
theorem k100_mkM (w : World) (base : Nat) (ok : Nat → Prop) (x : S100)  : k100.M w base ok x [.int .i64 x.f0, .int .i64 x.f1] := ⟨[.int .i64 x.f0], [.int .i64 x.f1], rfl, rfl, rfl⟩
def rd_T100 (xs : List S100) (i : Int) : S100 := xs.getD i.toNat z100
theorem at_T100 {w : World} {A : Option Addr} {n : Nat} {xs : List S100} (h : Kd.C k100 w A n xs) (i : Int) (h0 : 0 ≤ i) (h1 : i < n) : ∃ ad , A = some ad ∧ w.cell? (ad.add (i.toNat * 2)) = some (.int .i64 (rd_T100 xs i).f0) ∧ w.cell? ⟨(ad.add (i.toNat * 2)).block, (ad.add (i.toNat * 2)).off + 1, none⟩ = some (.int .i64 (rd_T100 xs i).f1) := by
  obtain ⟨ad, c, e, _, hK, hc0⟩ := Kd.C_get h z100 i h0 h1
  have hc : ∀ j u, c[j]? = some u → w.cell? (ad.add (i.toNat * 2 + j)) = some u := hc0
  obtain rfl := k100_open hK
  exact ⟨ad, e, hc 0 _ rfl, by rw [← add_field _ _ 1 (by omega)]; exact hc 1 _ rfl⟩
structure S128 where
  f0 : S29
  f1 : S29
def z128 : S128 := ⟨z29, z29⟩
def k128 : Kd S128 := Kd.iso (Kd.pair k29 k29) (fun x : S128 => (x.f0, x.f1))
theorem k128_open {w : World} {x : S128} {cs : List Value} (h : k128.K w x cs) : cs = [.int .u64 x.f0.f0, .int .u64 x.f0.f1, .int .u64 x.f0.f2, .int .u64 x.f0.f3, .int .u64 x.f1.f0, .int .u64 x.f1.f1, .int .u64 x.f1.f2, .int .u64 x.f1.f3] := by
  obtain ⟨_, _, rfl, s0, s4⟩ := h
  obtain rfl := k29_open s0
  obtain rfl := k29_open s4
  exact rfl
theorem k128_mkM (w : World) (base : Nat) (ok : Nat → Prop) (x : S128)  : k128.M w base ok x [.int .u64 x.f0.f0, .int .u64 x.f0.f1, .int .u64 x.f0.f2, .int .u64 x.f0.f3, .int .u64 x.f1.f0, .int .u64 x.f1.f1, .int .u64 x.f1.f2, .int .u64 x.f1.f3] := ⟨[.int .u64 x.f0.f0, .int .u64 x.f0.f1, .int .u64 x.f0.f2, .int .u64 x.f0.f3], [.int .u64 x.f1.f0, .int .u64 x.f1.f1, .int .u64 x.f1.f2, .int .u64 x.f1.f3], rfl, (k29_mkM w base ok x.f0 ), (k29_mkM w base ok x.f1 )⟩
def rd_T128 (xs : List S128) (i : Int) : S128 := xs.getD i.toNat z128
theorem at_T128 {w : World} {A : Option Addr} {n : Nat} {xs : List S128} (h : Kd.C k128 w A n xs) (i : Int) (h0 : 0 ≤ i) (h1 : i < n) : ∃ ad , A = some ad ∧ w.cell? (ad.add (i.toNat * 8)) = some (.int .u64 (rd_T128 xs i).f0.f0) ∧ w.cell? ⟨(ad.add (i.toNat * 8)).block, (ad.add (i.toNat * 8)).off + 1, none⟩ = some (.int .u64 (rd_T128 xs i).f0.f1) ∧ w.cell? ⟨(ad.add (i.toNat * 8)).block, (ad.add (i.toNat * 8)).off + 2, none⟩ = some (.int .u64 (rd_T128 xs i).f0.f2) ∧ w.cell? ⟨(ad.add (i.toNat * 8)).block, (ad.add (i.toNat * 8)).off + 3, none⟩ = some (.int .u64 (rd_T128 xs i).f0.f3) ∧ w.cell? ⟨(ad.add (i.toNat * 8)).block, (ad.add (i.toNat * 8)).off + 4, none⟩ = some (.int .u64 (rd_T128 xs i).f1.f0) ∧ w.cell? ⟨(ad.add (i.toNat * 8)).block, (ad.add (i.toNat * 8)).off + 5, none⟩ = some (.int .u64 (rd_T128 xs i).f1.f1) ∧ w.cell? ⟨(ad.add (i.toNat * 8)).block, (ad.add (i.toNat * 8)).off + 6, none⟩ = some (.int .u64 (rd_T128 xs i).f1.f2) ∧ w.cell? ⟨(ad.add (i.toNat * 8)).block, (ad.add (i.toNat * 8)).off + 7, none⟩ = some (.int .u64 (rd_T128 xs i).f1.f3) := by
  obtain ⟨ad, c, e, _, hK, hc0⟩ := Kd.C_get h z128 i h0 h1
  have hc : ∀ j u, c[j]? = some u → w.cell? (ad.add (i.toNat * 8 + j)) = some u := hc0
  obtain rfl := k128_open hK
  exact ⟨ad, e, hc 0 _ rfl, by rw [← add_field _ _ 1 (by omega)]; exact hc 1 _ rfl, by rw [← add_field _ _ 2 (by omega)]; exact hc 2 _ rfl, by rw [← add_field _ _ 3 (by omega)]; exact hc 3 _ rfl, by rw [← add_field _ _ 4 (by omega)]; exact hc 4 _ rfl, by rw [← add_field _ _ 5 (by omega)]; exact hc 5 _ rfl, by rw [← add_field _ _ 6 (by omega)]; exact hc 6 _ rfl, by rw [← add_field _ _ 7 (by omega)]; exact hc 7 _ rfl⟩
end
end Go.Proofs.Ytflckegggopdnaa.B
namespace Go.Proofs.Ytflckegggopdnaa.Opening
section
open Go.Proofs.Ytflckegggopdnaa.B Go.Proofs.YtflckegggopdnaaW
def ok24 (y : S24) : Prop := ((Lit.int .u64 y.f0).wf = true) ∧ ((Lit.int .u64 y.f1).wf = true) ∧ ((Lit.int .u64 y.f2).wf = true) ∧ ((Lit.int .u64 y.f3).wf = true)
theorem opens24 : Opens Try.prog k24 24 ok24 := opens_struct (f := fun x_ : S24 => (x_.f0, x_.f1, x_.f2, x_.f3)) (g := fun p_ => (⟨p_.1, p_.2.1, p_.2.2.1, p_.2.2.2⟩ : S24)) Try.underlying24 (by kernel_rfl) (fun _ => rfl) (opensF_cons (ok := fun (y_ : Int) => (Lit.int .u64 y_).wf = true) rfl (by kernel_rfl) (opens_int Try.underlying22) (off' := 1) rfl (opensF_cons (ok := fun (y_ : Int) => (Lit.int .u64 y_).wf = true) rfl (by kernel_rfl) (opens_int Try.underlying22) (off' := 2) rfl (opensF_cons (ok := fun (y_ : Int) => (Lit.int .u64 y_).wf = true) rfl (by kernel_rfl) (opens_int Try.underlying22) (off' := 3) rfl (opensF_last (ok := fun (y_ : Int) => (Lit.int .u64 y_).wf = true) rfl (by kernel_rfl) (opens_int Try.underlying22)))))
def ok26 (y : S26) : Prop := ((Lit.int .i64 y.f0).wf = true) ∧ (ok24 y.f1)
theorem opens26 : Opens Try.prog k26 26 ok26 := opens_struct (f := fun x_ : S26 => (x_.f0, x_.f1)) (g := fun p_ => (⟨p_.1, p_.2⟩ : S26)) Try.underlying26 (by kernel_rfl) (fun _ => rfl) (opensF_cons (ok := fun (y_ : Int) => (Lit.int .i64 y_).wf = true) rfl (by kernel_rfl) (opens_int Try.underlying3) (off' := 1) rfl (opensF_last (ok := fun (y_ : S24) => ok24 y_) rfl (by kernel_rfl) opens24))
def ok42 (y : S42) : Prop := (ok26 y.f0) ∧ (y.f1.length ≤ 9223372036854775807 ∧ ∀ y_ ∈ y.f1, ok24 y_)
theorem opens42 : Opens Try.prog k42 42 ok42 := opens_struct (f := fun x_ : S42 => (x_.f0, x_.f1)) (g := fun p_ => (⟨p_.1, p_.2⟩ : S42)) Try.underlying42 (by kernel_rfl) (fun _ => rfl) (opensF_cons (ok := fun (y_ : S26) => ok26 y_) rfl (by kernel_rfl) opens26 (off' := 5) rfl (opensF_last (ok := fun (l_ : List (S24)) => l_.length ≤ 9223372036854775807 ∧ ∀ y_ ∈ l_, ok24 y_) rfl (by kernel_rfl) (opens_slice Try.underlying40 (by kernel_rfl) opens24)))
end
end Go.Proofs.Ytflckegggopdnaa.Opening
