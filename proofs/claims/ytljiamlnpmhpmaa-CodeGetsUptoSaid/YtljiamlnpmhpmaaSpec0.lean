/- Facts by tables: what is told of some functions is true; sizes. -/
import Derived.Test.YtljiamlnpmhpmaaBase
set_option linter.unusedVariables false
namespace Go.Ev.T
open Go Go.Ev Go.Proofs

mutual
def sz : AV → Nat
  | .str s => s.length + 1
  | .ps _ _ _ rows => szR rows + 1
  | .agg cs => szL cs + 1
  | .tup cs => szL cs + 1
  | _ => 1
def szL : List AV → Nat
  | [] => 0
  | c :: cs => sz c + szL cs
def szR : List (List AV) → Nat
  | [] => 0
  | r :: rs => szL r + 1 + szR rs
end
/-- what a function is said to answer -/
abbrev Sp := List AV → List AObj → Option (List AV × List AObj)
abbrev Facts (nt f : Nat) (s : Sp) : Prop := ∀ args h rs h', s args h = some (rs, h') → Fact Try.prog L F nt f args h rs h'
structure Told (nt : Nat) where
  f : Nat
  s : Sp
  ok : Facts nt f s
/-- a call table out of facts -/
def tab {nt : Nat} : List (Told nt) → Call'
  | [], _, _, _ => none
  | t :: ts, f, args, h => bif Nat.beq f t.f then t.s args h else tab ts f args h
theorem tab_ok {nt : Nat} : ∀ (ts : List (Told nt)) (f : Nat) (args : List AV) (h : List AObj) (rs : List AV) (h' : List AObj), tab ts f args h = some (rs, h') → Fact Try.prog L F nt f args h rs h'
  | [], f, args, h, rs, h', hv => by cases hv
  | t :: ts, f, args, h, rs, h', hv => by
    simp only [tab, cond_eq_ite] at hv
    split at hv
    · rename_i hf
      rw [Nat.eq_of_beq_eq_true hf]
      exact t.ok args h rs h' hv
    · exact tab_ok ts f args h rs h' hv
/-- The rule for a function: its body over a table of facts. -/
theorem fact_tab {nt f : Nat} {fn : Func} {args rs : List AV} {h h' : List AObj} (hfn : Try.prog.funcs[f]? = some fn) (ts : List (Told nt)) (n : Nat)
    (hv : evBody ⟨L, F, nt, tab ts⟩ (lookV V f) n fn (sig F f).res args h = some (rs, h')) : Fact Try.prog L F nt f args h rs h' :=
  fact_body (Cf := cfg) lok fok mixed (callOk_of (E := ⟨L, F, nt, tab ts⟩) fun f args h rs h' hq => tab_ok ts f args h rs h' hq) n hfn hv
/-- the same, one answer being laid down -/
theorem fact_ovr {nt f g : Nat} {r : List AV × List AObj} {fn : Func} {args rs : List AV} {h h' : List AObj} (hfn : Try.prog.funcs[f]? = some fn) (hg : Fact Try.prog L F nt g [] [] r.1 r.2) (ts : List (Told nt)) (n : Nat)
    (hv : evBody ⟨L, F, nt, ovr g r (tab ts)⟩ (lookV V f) n fn (sig F f).res args h = some (rs, h')) : Fact Try.prog L F nt f args h rs h' :=
  fact_body (Cf := cfg) lok fok mixed (callOk_of (E := ⟨L, F, nt, ovr g r (tab ts)⟩) fun f args h rs h' hq => by
    simp only [ovr] at hq
    split at hq
    · simp only [cond_eq_ite] at hq
      split at hq
      · rename_i hf
        rw [Nat.eq_of_beq_eq_true hf]
        simp only [Option.some.injEq] at hq
        subst hq
        exact hg
      · exact tab_ok ts f _ _ rs h' hq
    · exact tab_ok ts f _ _ rs h' hq) n hfn hv
end Go.Ev.T
