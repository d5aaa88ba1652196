/- Plain lemmas for code.walk. -/
import Derived.Test.YtljiamlnpmhpmaaFlat
set_option linter.unusedVariables false
namespace Go.Ev
open Go
theorem w64_def (n : Int) : w64 n = IntKind.wrap .i64 n := rfl
theorem toTg_ps (t e : Nat) (c : Cp) (l : List Row) : AV.toTg (.ps t e c l) = t := rfl
theorem toCp_ps (t e : Nat) (c : Cp) (l : List Row) : AV.toCp (.ps t e c l) = c := rfl
theorem onB_true {σ : Type} (k : Int) (st : σ) (g : Int → σ → Bool × Int × σ) : onB (true, k, st) g = g k st := rfl
theorem onB_false {σ : Type} (r : Int × σ) (g : Int → σ → Bool × Int × σ) : onB (false, r) g = (false, r) := rfl
/-- on, or not -/
def resT {σ ρ : Type} (r : Bool × Int × σ) (a b : Int → σ → ρ) : ρ := bif r.1 then a r.2.1 r.2.2 else b r.2.1 r.2.2
/-- a walk that never ends of itself -/
def onF (k deep : Int) (s : Sm) (st : Unit) : Bool × Unit := (true, ())
end Go.Ev
