/- Function 47 (the law's own 'name'), decompiled, and what it comes to. -/
import Derived.Test.YtljiamlnpmhpmaaAid
set_option linter.unusedVariables false
set_option linter.unusedSimpArgs false
noncomputable section
namespace Go.Ev.T
open Go Go.Ev Go.Proofs
def f47 (nt : Nat) (X : Call') (n : Nat) (a : List UInt8) : Option (List AV × List AObj) :=
  some (([AV.agg [AV.int IntKind.u8 4, AV.int IntKind.i64 0, AV.str a, AV.ps 0 26 (Cp.mk true true) []]], []))
theorem f47_q (nt : Nat) (X : Call') (n : Nat) (a : List UInt8) : evBody ⟨L, F, nt, X⟩ (lookV V 47) n Try.f47 (sig F 47).res [AV.str a] [] = f47 nt X n a := by kernel_rfl

def sp47 : Sp
  | [.str a], [] => some ([.agg [.int .u8 4, .int .i64 0, .str a, .ps 0 26 ⟨true, true⟩ []]], [])
  | _, _ => none
theorem told47 (nt : Nat) : Facts nt 47 sp47 := fun args h rs h' hv => by
  unfold sp47 at hv
  split at hv
  · refine fact_tab Try.func47 [] 1 ?_
    rw [f47_q, ← hv]; rfl
  · cases hv
end Go.Ev.T
