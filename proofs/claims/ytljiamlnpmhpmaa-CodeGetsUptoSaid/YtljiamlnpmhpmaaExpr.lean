/- Expressions of code: whether they may be. Plain Lean, no program in sight. -/
import Derived.Test.YtljiamlnpmhpmaaAid
set_option linter.unusedVariables false
set_option linter.unusedSimpArgs false
namespace Go.Ev
open Go

/-- an expression -/
inductive Ex where
  | mk (k n : Int) (s : List UInt8) (l : List Ex)
theorem sz_toR : ∀ (v : AV), T.szR v.toR < T.sz v + 1
  | .ps _ _ _ rows => by simp only [AV.toR, T.sz]; omega
  | .u | .int _ _ | .bool _ | .str _ | .pp _ _ | .own _ _ | .sl _ _ _ _ | .ptr _ _ _ _ | .nilptr | .agg _ | .tup _ | .func _ _ | .map _ | .nilmap | .iface _ _ | .niliface => by simp only [AV.toR, T.szR]; omega
theorem sz_toR' (v : AV) : T.szR v.toR ≤ T.sz v := by have := sz_toR v; omega
theorem sz_nth : ∀ (r : List AV) (j : Nat), T.szR (nth AV.u r j).toR ≤ T.szL r
  | [], j => by simp [nth, AV.toR, T.szR]
  | c :: cs, 0 => by simp only [nth, T.szL]; have := sz_toR' c; omega
  | c :: cs, j + 1 => by simp only [nth, T.szL]; have := sz_nth cs j; omega
theorem sz_mem : ∀ {rows : List Row} {r : Row}, r ∈ rows → T.szL r < T.szR rows
  | [], r, h => by simp at h
  | x :: xs, r, h => by
    simp only [T.szR]
    rcases List.mem_cons.1 h with rfl | h
    · omega
    · have := sz_mem h; omega
theorem T.szR_len : ∀ (rows : List Row), rows.length ≤ T.szR rows
  | [] => by simp [T.szR]
  | r :: rs => by simp only [T.szR, List.length_cons]; have := T.szR_len rs; omega
def exOf (r : Row) : Ex := .mk (nth .u r 0).toI (nth .u r 1).toI (nth .u r 2).toS ((nth .u r 3).toR.attach.map fun ⟨x, hx⟩ => exOf x)
termination_by T.szL r
decreasing_by exact Nat.lt_of_lt_of_le (sz_mem hx) (sz_nth r 3)
def exsOf (rows : List Row) : List Ex := rows.map exOf
theorem exOf_eq (r : Row) : exOf r = .mk (nth .u r 0).toI (nth .u r 1).toI (nth .u r 2).toS (exsOf (nth .u r 3).toR) := by
  rw [exOf]; simp [exsOf]
def w64 (n : Int) : Int := IntKind.wrap .i64 n

def okCh (b : UInt8) : Bool := !((decide ((b.toNat : Int) < 97) || decide (122 < (b.toNat : Int))) && (decide ((b.toNat : Int) < 48) || decide (57 < (b.toNat : Int))))
def mayName (s : List UInt8) : Bool :=
  match s with
  | [] => false
  | c :: _ => decide (s.length ≤ 32) && !decide ((c.toNat : Int) < 97) && !decide (122 < (c.toNat : Int)) && s.all okCh
/-- is there something that the kind does not name? -/
def exBad (k n : Int) (s : List UInt8) (len : Nat) : Bool := (!decide (k = 1) && !decide (n = 0)) || (!decide (k = 3) && decide (0 < (len : Int))) || (!decide (k = 2) && !decide (k = 4) && !decide (s = []))
mutual
/-- whether an expression may be, with so many parts left; how many are left then -/
def mayE : Ex → Int → Int → Bool × Int
  | .mk k n s l, nest, left =>
    bif decide (w64 (left - 1) < 0) || exBad k n s l.length then (false, w64 (left - 1))
    else bif decide (k = 1) then (true, w64 (left - 1))
    else bif decide (k = 2) then (decide ((s.length : Int) ≤ 256), w64 (left - 1))
    else bif decide (k = 4) then (mayName s, w64 (left - 1))
    else bif decide (k = 3) then (bif decide (0 < nest) then mayEs l nest (w64 (left - 1)) else (false, w64 (left - 1)))
    else (false, w64 (left - 1))
def mayEs : List Ex → Int → Int → Bool × Int
  | [], _, left => (true, left)
  | e :: es, nest, left =>
    bif (mayE e (w64 (nest - 1)) left).1 then mayEs es nest (mayE e (w64 (nest - 1)) left).2 else (false, (mayE e (w64 (nest - 1)) left).2)
end
/-- the place of the first one that may not be -/
def mayIx : List Ex → Int → Int → Int → Int × Int
  | [], _, left, _ => (-1, left)
  | e :: es, nest, left, i =>
    bif (mayE e (w64 (nest - 1)) left).1 then mayIx es nest (mayE e (w64 (nest - 1)) left).2 (i + 1) else (i, (mayE e (w64 (nest - 1)) left).2)
theorem mayIx_ok : ∀ (es : List Ex) (nest left i : Int), 0 ≤ i → (!decide (0 ≤ (mayIx es nest left i).1)) = (mayEs es nest left).1 ∧ (mayIx es nest left i).2 = (mayEs es nest left).2
  | [], nest, left, i, hi => by simp [mayIx, mayEs]
  | e :: es, nest, left, i, hi => by
    simp only [mayIx, mayEs]
    by_cases hb : (mayE e (w64 (nest - 1)) left).1 = true
    · simp only [hb, cond_true]; exact mayIx_ok es nest _ (i + 1) (by omega)
    · rw [Bool.not_eq_true] at hb
      simp [hb, hi]
end Go.Ev
