/- What the arguments' own types read as: no condition. (Written by the session's program pp.py.) -/
import Derived.KernelRfl
import Derived.Test.YtflcbanemolkfaaZHTOpens
import Derived.Test.YtflcbanemolkfaaZHTK
namespace Go.Proofs.Ytflcbanemolkfaa.Opening
open Go.Proofs.Ytflcbanemolkfaa.B Go.Proofs.YtflcbanemolkfaaW.PrintWords
set_option linter.unusedVariables false
set_option maxRecDepth 100000
def ok24 (y : S24) : Prop := ((Lit.int .u64 y.f0).wf = true) ∧ ((Lit.int .u64 y.f1).wf = true) ∧ ((Lit.int .u64 y.f2).wf = true) ∧ ((Lit.int .u64 y.f3).wf = true)
theorem opens24 : Opens Try.prog k24 24 ok24 := opens_struct (f := fun x_ : S24 => (x_.f0, x_.f1, x_.f2, x_.f3)) (g := fun p_ => (⟨p_.1, p_.2.1, p_.2.2.1, p_.2.2.2⟩ : S24)) Try.underlying24 (by kernel_rfl) (fun _ => rfl) (opensF_cons (ok := fun (y_ : Int) => (Lit.int .u64 y_).wf = true) rfl (by kernel_rfl) (opens_int Try.underlying22) (off' := 1) rfl (opensF_cons (ok := fun (y_ : Int) => (Lit.int .u64 y_).wf = true) rfl (by kernel_rfl) (opens_int Try.underlying22) (off' := 2) rfl (opensF_cons (ok := fun (y_ : Int) => (Lit.int .u64 y_).wf = true) rfl (by kernel_rfl) (opens_int Try.underlying22) (off' := 3) rfl (opensF_last (ok := fun (y_ : Int) => (Lit.int .u64 y_).wf = true) rfl (by kernel_rfl) (opens_int Try.underlying22)))))
end Go.Proofs.Ytflcbanemolkfaa.Opening
