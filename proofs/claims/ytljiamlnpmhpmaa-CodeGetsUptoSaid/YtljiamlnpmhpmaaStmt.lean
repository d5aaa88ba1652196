/- Statements of code. Plain Lean, no program in sight. -/
import Derived.Test.YtljiamlnpmhpmaaF138
set_option linter.unusedVariables false
namespace Go.Ev
open Go

/-- a statement -/
inductive Sm where
  | mk (op : Int) (name second : List UInt8) (able what : Int) (a b : Ex) (thn els code : List Sm) (withs : List (List UInt8))
/-- the four cells of an expression, from cell j on -/
def exAt (r : Row) (j : Nat) : Ex := .mk (nth .u r j).toI (nth .u r (j + 1)).toI (nth .u r (j + 2)).toS (exsOf (nth .u r (j + 3)).toR)
def smOf (r : Row) : Sm := .mk (nth .u r 0).toI (nth .u r 1).toS (nth .u r 2).toS (nth .u r 3).toI (nth .u r 4).toI (exAt r 5) (exAt r 9)
  ((nth .u r 13).toR.attach.map fun ⟨x, hx⟩ => smOf x) ((nth .u r 14).toR.attach.map fun ⟨x, hx⟩ => smOf x) ((nth .u r 15).toR.attach.map fun ⟨x, hx⟩ => smOf x) (strsOf (nth .u r 16).toR)
termination_by T.szL r
decreasing_by
  · exact Nat.lt_of_lt_of_le (sz_mem hx) (sz_nth r 13)
  · exact Nat.lt_of_lt_of_le (sz_mem hx) (sz_nth r 14)
  · exact Nat.lt_of_lt_of_le (sz_mem hx) (sz_nth r 15)
def smsOf (rows : List Row) : List Sm := rows.map smOf
theorem smOf_eq (r : Row) : smOf r = .mk (nth .u r 0).toI (nth .u r 1).toS (nth .u r 2).toS (nth .u r 3).toI (nth .u r 4).toI (exAt r 5) (exAt r 9) (smsOf (nth .u r 13).toR) (smsOf (nth .u r 14).toR) (smsOf (nth .u r 15).toR) (strsOf (nth .u r 16).toR) := by
  rw [smOf]; simp [smsOf]
/-- whether the fields of a Make are as its What asks -/
def makeOk (nm sec : List UInt8) (ab wh : Int) (a : Ex) (ws : List (List UInt8)) : Bool :=
  bif decide (wh = 1) then mayName nm && orNoEx a
  else bif decide (wh = 2) || decide (wh = 3) || decide (wh = 4) || decide (wh = 8) then mayName nm
  else bif decide (wh = 14) then mayName nm && mayEx a && mayAb ab
  else bif decide (wh = 15) || decide (wh = 16) then mayName nm && mayEx a && mayName sec && !decide (sec = nm)
  else bif decide (wh = 5) || decide (wh = 10) then mayName nm && mayName sec && !decide (sec = nm)
  else bif decide (wh = 12) then mayName nm && decide ((ws.length : Int) ≤ 64) && ws.all mayName && !twice ws
  else false
end Go.Ev
