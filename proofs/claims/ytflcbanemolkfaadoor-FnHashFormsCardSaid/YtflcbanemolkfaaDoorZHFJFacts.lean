/- Closed facts of the loaded program, each by itself: no condition. (Written by the session's program pp.py.) -/
import Derived.Test.YtflcbanemolkfaaDoorProg
import Derived.JoinedOf
import Derived.KernelRfl
namespace Go.Proofs.YtflcbanemolkfaaDoor.JFacts
set_option maxRecDepth 100000
theorem band {a b : Bool} (h : a = true) (k : b = true) : (a && b) = true := by rw [h, k]; rfl
def head : List Char := [104, 97, 114, 110, 101, 115, 115, 32, 49, 99, 51, 52, 49, 49, 57, 99, 53, 52, 98, 100, 52, 53, 49, 100, 52, 55, 100, 57, 50, 54, 53, 97, 99, 49, 97, 51, 98, 49, 53, 100, 52, 52, 51, 50, 51, 99, 51, 52, 50, 48, 56, 56, 52, 56, 97, 102, 52, 102, 50, 100, 50, 49, 55, 49, 102, 100, 54, 98, 49, 51, 100, 51, 32, 99, 117, 116, 32, 97, 116, 32, 108, 111, 111, 112, 46, 101, 120, 97, 109, 112, 108, 101, 47, 98, 101, 108, 102, 114, 121, 47, 108, 97, 119, 115, 46, 70, 110, 69, 120, 97, 99, 116, 72, 97, 115, 104, 82, 101, 97, 100, 32, 108, 111, 111, 112, 46, 101, 120, 97, 109, 112, 108, 101, 47, 98, 101, 108, 102, 114, 121, 47, 108, 97, 119, 115, 46, 70, 110, 72, 97, 115, 104, 70, 111, 114, 109, 115].map Char.ofNat
theorem signs : Tryd.prog.initOrder.toList = head := by
  have h : Tryd.prog.initOrder = String.ofList head := by kernel_rfl
  rw [h, String.toList_ofList]
def word0 : List Char := [99, 117, 116].map Char.ofNat
def others : List (List Char) := [[97, 116], [108, 111, 111, 112, 46, 101, 120, 97, 109, 112, 108, 101, 47, 98, 101, 108, 102, 114, 121, 47, 108, 97, 119, 115, 46, 70, 110, 69, 120, 97, 99, 116, 72, 97, 115, 104, 82, 101, 97, 100], [108, 111, 111, 112, 46, 101, 120, 97, 109, 112, 108, 101, 47, 98, 101, 108, 102, 114, 121, 47, 108, 97, 119, 115, 46, 70, 110, 72, 97, 115, 104, 70, 111, 114, 109, 115]].map fun l => l.map Char.ofNat
theorem words : behindMainWord (wordsSigns Tryd.prog.initOrder.toList) = word0 :: others := by
  rw [signs]
  kernel_rfl
def kindsFact (P : Program) (fn : Func) (c : OpenClaim) : Bool := c.kinds == (if c.domain.isEmpty then [] else fn.params.toList.map fun t => match P.underlying t with | some (.int k) => some k | _ => none)
theorem joined_of {P : Program} {f : FuncId} {fn : Func} {s : ChangeSpec} {c : OpenClaim}
    (h0 : c.wf (OpenSpec.ofChange s) = true) (h1 : laidOutB P = true) (h2 : mapsRowed P = true) (h3 : fn.params.all (fun x => P.readableRec x) = true) (h4 : namedTie P c.named s.vars = true)
    (h5 : (c.stops == []) = true) (h6 : (P.stops == []) = true) (h7 : (c.knobs == []) = true) (h8 : (P.stopKnobs == []) = true)
    (h9 : (c.inPlace == P.inPlace f) = true) (h10 : (c.unfollowed == P.unfollowed f) = true) (h11 : (c.recurses == P.recurses f) = true) (h12 : (c.named == P.varsNamed f) = true)
    (h13 : (c.maps == (fn.params.toList ++ s.plain.varTypes P).any (fun x => P.mapsRec x)) = true) (h14 : (c.ifaces == (fn.params.toList ++ s.plain.varTypes P).any (fun x => P.ifacesRec x)) = true) (h15 : (c.mapsOut == P.mapsAmong fn.resultTypes.toList) = true)
    (h16 : (c.loops == (fn.params.toList ++ s.plain.varTypes P).any (fun x => P.loopsFrom x)) = true) (h17 : (c.wideKeys == (fn.params.toList ++ s.plain.varTypes P ++ fn.resultTypes.toList).any (fun x => P.wideKeysFrom x)) = true)
    (h18 : s.vars.all (fun x => P.varReadable x) = true) (h19 : fn.resultTypes.all (fun t => P.readableRec t && decide (t < P.types.size)) = true) (h20 : (c.ifacesOut == fn.resultTypes.toList.any (fun x => P.ifacesRec x)) = true) (h21 : (c.loopsOut == fn.resultTypes.toList.any (fun x => P.loopsFrom x)) = true)
    (h22 : (c.plainKeys == P.plainKeys) = true) (h23 : c.shortTexts.isNone = true) (h24 : P.stopsHeard = true) (h25 : P.mayEnter = true) (h26 : (c.lifted == P.liftsFinal) = true) (h27 : (P.make == some c.make) = true)
    (h28 : kindsFact P fn c = true) (h29 : (c.pinned == c.pinnedBy) = true)
    (h30 : (c.veiled == (fn.params.toList ++ s.plain.varTypes P ++ fn.resultTypes.toList).any (fun x => P.veiledRec x)) = true) (h31 : c.veiledFits P fn.params.toList (fn.params.toList ++ s.plain.varTypes P ++ fn.resultTypes.toList) = true) : joinedFacts P f fn s c = true :=
  band (band (band (band (band (band (band (band (band (band (band (band (band (band (band (band (band (band (band (band (band (band (band (band (band (band (band (band (band (band (band h0 h1) h2) h3) h4) h5) h6) h7) h8) h9) h10) h11) h12) h13) h14) h15) h16) h17) h18) h19) h20) h21) h22) h23) h24) h25) h26) h27) h28) h29) h30) h31
theorem make_of {P : Program} {c : List Char} {rest : List (List Char)} (h : behindMainWord (wordsSigns P.initOrder.toList) = c :: rest) (h1 : (c == "gc".toList) = false) (h2 : (c == "spec".toList) = false) (h3 : (c == "cut".toList) = true) : P.make = some .cut := by
  unfold Program.make
  rw [h]
  generalize "gc".toList = g1 at h1 ⊢
  generalize "spec".toList = g2 at h2 ⊢
  generalize "cut".toList = g3 at h3 ⊢
  generalize "finals".toList = g4
  generalize "carried".toList = g5
  simp only [h1, h2, h3, Bool.or_false, Bool.true_or, if_true, Bool.false_eq_true, if_false]
theorem may_of {P : Program} {c : List Char} {rest : List (List Char)} (h : behindMainWord (wordsSigns P.initOrder.toList) = c :: rest) (e : stripLifts liftWords (c :: rest) = ([], c :: rest)) (h3 : (c == "cut".toList) = true) (hl : P.laysLater = false) (hb : P.bearsReflect = false) (hd : P.doorFits [] = true) : P.mayEnter = true := by
  unfold Program.mayEnter
  rw [h]
  generalize "cut".toList = g3 at h3 ⊢
  generalize "gc".toList = g1
  generalize "spec".toList = g2
  generalize "carried".toList = g5
  generalize "stop".toList = g6
  obtain rfl : c = g3 := by simpa using h3
  simp only [e, hl, hb, hd]
  simp
theorem lifts_of {P : Program} {c : List Char} {rest : List (List Char)} (h : behindMainWord (wordsSigns P.initOrder.toList) = c :: rest) (e : stripLifts liftWords (c :: rest) = ([], c :: rest)) (h4 : (c == "carried".toList) = false) : P.liftsFinal = false := by
  unfold Program.liftsFinal Program.headLifts
  rw [h]
  generalize "carried".toList = g5 at h4 ⊢
  generalize "gc".toList = g1
  generalize "cut".toList = g3
  have h4' : ¬ c = g5 := by simpa using h4
  simp only [e]
  simp [h4']
theorem mayEnter : Tryd.prog.mayEnter = true := may_of words (by kernel_rfl) (by kernel_rfl) (by kernel_rfl) (by kernel_rfl) (by kernel_rfl)
theorem lifts : Tryd.prog.liftsFinal = false := lifts_of words (by kernel_rfl) (by kernel_rfl)
theorem make : Tryd.prog.make = some .cut := make_of words (by kernel_rfl) (by kernel_rfl) (by kernel_rfl)
theorem laidOut : laidOutB Tryd.prog = true := by kernel_rfl
theorem mapsRowed : mapsRowed Tryd.prog = true := by kernel_rfl
theorem stops : (Tryd.prog.stops == []) = true := by kernel_rfl
theorem knobs : (Tryd.prog.stopKnobs == []) = true := by kernel_rfl
theorem heard : Tryd.prog.stopsHeard = true := by kernel_rfl
end Go.Proofs.YtflcbanemolkfaaDoor.JFacts
