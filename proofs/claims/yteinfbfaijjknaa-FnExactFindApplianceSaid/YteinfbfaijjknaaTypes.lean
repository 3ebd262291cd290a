/- What each argument type of these statements reads as. Conditions: none of our own. -/
import Derived.Test.YteinfbfaijjknaaPx0
import Derived.Test.YteinfbfaijjknaaOpens
import Derived.KernelRfl
namespace Go.Proofs.Yteinfbfaijjknaa
open Go.RowKit Go.Proofs.YteinfbfaijjknaaW.PrintWords Go.Proofs.Yteinfbfaijjknaa.Opens

/-- loop.example/g01020/laws.Appliance: what holds of its fields. -/
def Wf23 (x : P.S23) : Prop := (x.f0.size ≤ maxLen) ∧ ((Lit.int .i64 x.f1).wf = true) ∧ ((Lit.int .i64 x.f2).wf = true) ∧ ((Lit.int .i64 x.f3).wf = true) ∧ ((Lit.int .i64 x.f4).wf = true)
theorem opn23 : Opn Try.prog 23 P.k23 Wf23 := opn_struct (f := (fun x : P.S23 => (x.f0, x.f1, x.f2, x.f3, x.f4))) (fun a => (⟨a.1, a.2.1, a.2.2.1, a.2.2.2.1, a.2.2.2.2⟩ : P.S23)) (fun _ => rfl) Try.underlying23 (by kernel_rfl) (opnFs_cons _ rfl rfl (by kernel_rfl) (opn_string Try.underlying9) (opnFs_cons _ rfl rfl (by kernel_rfl) (opn_int Try.underlying3) (opnFs_cons _ rfl rfl (by kernel_rfl) (opn_int Try.underlying3) (opnFs_cons _ rfl rfl (by kernel_rfl) (opn_int Try.underlying3) (opnFs_last _ rfl rfl (by kernel_rfl) (opn_int Try.underlying3))))))
end Go.Proofs.Yteinfbfaijjknaa
