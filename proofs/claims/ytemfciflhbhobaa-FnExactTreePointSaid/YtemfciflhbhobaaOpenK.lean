/- What the arguments' own types read as: no condition. (Written by the session's program pp.py.) -/
import Derived.Test.YtemfciflhbhobaaOpens
import Derived.Test.YtemfciflhbhobaaK
import Derived.KernelRfl
namespace Go.Proofs.Ytemfciflhbhobaa.Opening
open Go.Proofs.Ytemfciflhbhobaa.B Go.Proofs.YtemfciflhbhobaaW.PrintWords
set_option linter.unusedVariables false
set_option maxRecDepth 100000

end Go.Proofs.Ytemfciflhbhobaa.Opening
