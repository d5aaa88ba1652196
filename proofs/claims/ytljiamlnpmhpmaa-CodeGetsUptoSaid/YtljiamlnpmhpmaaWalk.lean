/- Going over the statements of a code. Plain Lean, no program in sight. -/
import Derived.Test.YtljiamlnpmhpmaaF75
set_option linter.unusedVariables false
namespace Go.Ev
open Go

/-- on, unless it was ended -/
def onB {σ : Type} (r : Bool × Int × σ) (g : Int → σ → Bool × Int × σ) : Bool × Int × σ := bif r.1 then g r.2.1 r.2.2 else (false, r.2)
section
variable {σ : Type} (f : Int → Int → Sm → σ → Bool × σ)
mutual
/-- one statement and what stands in it: told to f with its number and depth; f false, or a number beyond 512, ends it. Is it to go on; the next number; the state -/
def wkS : Sm → Int → Int → σ → Bool × Int × σ
  | .mk op nm sec ab wh a b t e c ws, deep, k, st =>
    bif decide (512 < k) then (false, w64 (k + 1), st)
    else onB ((f k deep (.mk op nm sec ab wh a b t e c ws) st).1, w64 (k + 1), (f k deep (.mk op nm sec ab wh a b t e c ws) st).2) fun k st =>
      onB (wkL t (w64 (deep + 1)) k st) fun k st => onB (wkL e (w64 (deep + 1)) k st) fun k st => wkL c (w64 (deep + 1)) k st
def wkL : List Sm → Int → Int → σ → Bool × Int × σ
  | [], _, k, st => (true, k, st)
  | s :: ss, deep, k, st => onB (wkS s deep k st) fun k st => wkL ss deep k st
end
end
end Go.Ev
namespace Go.Ev
mutual
/-- the abilities of all statements are numbers of a byte -/
def wfS : Sm → Bool
  | .mk op nm sec ab wh a b t e c ws => inU8 ab && wfL t && wfL e && wfL c
def wfL : List Sm → Bool
  | [] => true
  | s :: ss => wfS s && wfL ss
end
theorem wfL_mem : ∀ {ss : List Sm} {s : Sm}, wfL ss = true → s ∈ ss → wfS s = true
  | x :: xs, s, h, hm => by
    simp only [wfL, Bool.and_eq_true] at h
    rcases List.mem_cons.1 hm with rfl | hm
    · exact h.1
    · exact wfL_mem h.2 hm
/-- Check, at a statement -/
def chkF (k deep : Int) (s : Sm) (st : Int × Int) : Bool × (Int × Int) := (decide ((chk k st.1 st.2 (maySm s)).2 = 0), chk k st.1 st.2 (maySm s))
theorem szL_all : ∀ (r : List AV) (i j k l : Nat), i < j → j < k → k < l → T.szR (nth AV.u r i).toR + T.szR (nth AV.u r j).toR + T.szR (nth AV.u r k).toR + T.szR (nth AV.u r l).toR ≤ T.szL r := by
  have one : ∀ (r : List AV) (i : Nat), T.szR (nth AV.u r i).toR ≤ T.szL r := sz_nth
  have two : ∀ (r : List AV) (i j : Nat), i < j → T.szR (nth AV.u r i).toR + T.szR (nth AV.u r j).toR ≤ T.szL r := by
    intro r
    induction r with
    | nil => intro i j _; simp [nth, AV.toR, T.szR]
    | cons c cs ih =>
      intro i j hij
      cases j with
      | zero => omega
      | succ j =>
        cases i with
        | zero => simp only [nth, T.szL]; have := sz_toR' c; have := one cs j; omega
        | succ i => simp only [nth, T.szL]; have := ih i j (by omega); omega
  have three : ∀ (r : List AV) (i j k : Nat), i < j → j < k → T.szR (nth AV.u r i).toR + T.szR (nth AV.u r j).toR + T.szR (nth AV.u r k).toR ≤ T.szL r := by
    intro r
    induction r with
    | nil => intro i j k _ _; simp [nth, AV.toR, T.szR]
    | cons c cs ih =>
      intro i j k hij hjk
      cases k with
      | zero => omega
      | succ k =>
        cases j with
        | zero => omega
        | succ j =>
          cases i with
          | zero => simp only [nth, T.szL]; have := sz_toR' c; have := two cs j k (by omega); omega
          | succ i => simp only [nth, T.szL]; have := ih i j k (by omega) (by omega); omega
  intro r
  induction r with
  | nil => intro i j k l _ _ _; simp [nth, AV.toR, T.szR]
  | cons c cs ih =>
    intro i j k l hij hjk hkl
    cases l with
    | zero => omega
    | succ l =>
      cases k with
      | zero => omega
      | succ k =>
        cases j with
        | zero => omega
        | succ j =>
          cases i with
          | zero => simp only [nth, T.szL]; have := sz_toR' c; have := three cs j k l (by omega) (by omega); omega
          | succ i => simp only [nth, T.szL]; have := ih i j k l (by omega) (by omega) (by omega); omega
end Go.Ev
