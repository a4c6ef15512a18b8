/- What the arguments' own types read as: no condition. (Written by the session's program pp.py.) -/
import Derived.KernelRfl
import Derived.Test.YtflckegggopdnaaZCEOpens
import Derived.Test.YtflckegggopdnaaZCEK
namespace Go.Proofs.Ytflckegggopdnaa.Opening
open Go.Proofs.Ytflckegggopdnaa.B Go.Proofs.YtflckegggopdnaaW.PrintWords
set_option linter.unusedVariables false
set_option maxRecDepth 100000
def ok24 (y : S24) : Prop := ((Lit.int .u64 y.f0).wf = true) ∧ ((Lit.int .u64 y.f1).wf = true) ∧ ((Lit.int .u64 y.f2).wf = true) ∧ ((Lit.int .u64 y.f3).wf = true)
theorem opens24 : Opens Try.prog k24 24 ok24 := opens_struct (f := fun x_ : S24 => (x_.f0, x_.f1, x_.f2, x_.f3)) (g := fun p_ => (⟨p_.1, p_.2.1, p_.2.2.1, p_.2.2.2⟩ : S24)) Try.underlying24 (by kernel_rfl) (fun _ => rfl) (opensF_cons (ok := fun (y_ : Int) => (Lit.int .u64 y_).wf = true) rfl (by kernel_rfl) (opens_int Try.underlying22) (off' := 1) rfl (opensF_cons (ok := fun (y_ : Int) => (Lit.int .u64 y_).wf = true) rfl (by kernel_rfl) (opens_int Try.underlying22) (off' := 2) rfl (opensF_cons (ok := fun (y_ : Int) => (Lit.int .u64 y_).wf = true) rfl (by kernel_rfl) (opens_int Try.underlying22) (off' := 3) rfl (opensF_last (ok := fun (y_ : Int) => (Lit.int .u64 y_).wf = true) rfl (by kernel_rfl) (opens_int Try.underlying22)))))
def ok26 (y : S26) : Prop := ((Lit.int .i64 y.f0).wf = true) ∧ (ok24 y.f1)
theorem opens26 : Opens Try.prog k26 26 ok26 := opens_struct (f := fun x_ : S26 => (x_.f0, x_.f1)) (g := fun p_ => (⟨p_.1, p_.2⟩ : S26)) Try.underlying26 (by kernel_rfl) (fun _ => rfl) (opensF_cons (ok := fun (y_ : Int) => (Lit.int .i64 y_).wf = true) rfl (by kernel_rfl) (opens_int Try.underlying3) (off' := 1) rfl (opensF_last (ok := fun (y_ : S24) => ok24 y_) rfl (by kernel_rfl) opens24))
def ok42 (y : S42) : Prop := (ok26 y.f0) ∧ (y.f1.length ≤ 9223372036854775807 ∧ ∀ y_ ∈ y.f1, ok24 y_)
theorem opens42 : Opens Try.prog k42 42 ok42 := opens_struct (f := fun x_ : S42 => (x_.f0, x_.f1)) (g := fun p_ => (⟨p_.1, p_.2⟩ : S42)) Try.underlying42 (by kernel_rfl) (fun _ => rfl) (opensF_cons (ok := fun (y_ : S26) => ok26 y_) rfl (by kernel_rfl) opens26 (off' := 5) rfl (opensF_last (ok := fun (l_ : List (S24)) => l_.length ≤ 9223372036854775807 ∧ ∀ y_ ∈ l_, ok24 y_) rfl (by kernel_rfl) (opens_slice Try.underlying40 (by kernel_rfl) opens24)))
end Go.Proofs.Ytflckegggopdnaa.Opening
