/- A text's bytes as a list of numbers. No condition. -/
import Derived.Test.YtflcbanemolkfaaZWBQList
namespace Go.Proofs.Ytflcbanemolkfaa.Q
open Go.RowKit Go.Proofs.Ytflcbanemolkfaa.B Go.Proofs.YtflcbanemolkfaaW.PrintWords Go.Proofs.YtflcbanemolkfaaW.PrintLast Go.Proofs.YtflcbanemolkfaaW.PrintMore
set_option linter.unusedVariables false
set_option linter.unusedSimpArgs false
theorem bsw {α β : Type} {x : Option α} {v : α} {F : α → Option β} {r : Option β} (h : x = some v) (k : F v = r) : x.bind F = r := by rw [h]; exact k
theorem rdB_nat {l : List Int} {i : Nat} (h : i < l.length) : rd l (i : Int) = l[i] := by simp [rd, List.getD, List.getElem?_eq_getElem h]
theorem btB_nat {s : ByteArray} {i : Nat} (h : i < (bytesOf s).length) : bt s (i : Int) = (bytesOf s)[i] := by rw [← rd_bytesOf, rdB_nat h]
end Go.Proofs.Ytflcbanemolkfaa.Q
