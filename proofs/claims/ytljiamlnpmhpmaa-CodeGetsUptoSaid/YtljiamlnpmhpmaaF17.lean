/- Function 17 (the law's own 'lives'): a closed call, evaluated. -/
import Derived.Test.YtljiamlnpmhpmaaAid
set_option linter.unusedVariables false
noncomputable section
namespace Go.Ev.T
open Go Go.Ev Go.Proofs
theorem run17 (nt : Nat) : evCall cfg nt 2000 17 [] [] = some ([.bool true], []) := by kernel_rfl
theorem fact_run {nt n f : Nat} {rs : List AV} {h' : List AObj} (hv : evCall cfg nt n f [] [] = some (rs, h')) : Fact Try.prog L F nt f [] [] rs h' :=
  fact_of (E := ⟨cfg.L, cfg.F, nt, evCall cfg nt n⟩) (call_ok cfg nt lok fok mixed n) hv
def sp17 : Sp
  | [], [] => some ([.bool true], [])
  | _, _ => none
theorem told17 (nt : Nat) : Facts nt 17 sp17 := fun args h rs h' hv => by
  unfold sp17 at hv
  split at hv
  · simp only [Option.some.injEq, Prod.mk.injEq] at hv
    obtain ⟨rfl, rfl⟩ := hv
    exact fact_run (run17 nt)
  · cases hv
end Go.Ev.T
