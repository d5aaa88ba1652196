/- Values: whether they may be, how much they are, copies. Plain Lean, no program in sight. -/
import Derived.Test.YtljiamlnpmhpmaaExpr
set_option linter.unusedVariables false
set_option linter.unusedSimpArgs false
namespace Go.Ev
open Go
/-- a value -/
inductive Vl where
  | mk (k n : Int) (s : List UInt8) (l : List Vl) (r : Int)
def vlOf (r : Row) : Vl := .mk (nth .u r 0).toI (nth .u r 1).toI (nth .u r 2).toS ((nth .u r 3).toR.attach.map fun ⟨x, hx⟩ => vlOf x) (nth .u r 4).toI
termination_by T.szL r
decreasing_by exact Nat.lt_of_lt_of_le (sz_mem hx) (sz_nth r 3)
def vlsOf (rows : List Row) : List Vl := rows.map vlOf
theorem vlOf_eq (r : Row) : vlOf r = .mk (nth .u r 0).toI (nth .u r 1).toI (nth .u r 2).toS (vlsOf (nth .u r 3).toR) (nth .u r 4).toI := by
  rw [vlOf]; simp [vlsOf]
/-- is nothing there that the kind does not name? -/
def vlBare (n : Int) (s : List UInt8) (len : Nat) (r : Int) : Bool := decide (n = 0) && decide (s = []) && decide (r = 0) && decide ((len : Int) = 0)
def vlMany (p : Int) (len : Nat) : Bool := decide (p < (len : Int))
mutual
/-- a part is taken, with all in it; how many parts, how many lists within lists are left -/
def takeV : Vl → Int → Int → Bool × Int × Int
  | .mk k n s l r, p, q =>
    bif decide (p = 0) then (false, p, q)
    else bif decide (k = 0) then (vlBare n s l.length r, w64 (p - 1), q)
    else bif decide (k = 1) then (vlBare 0 s l.length r, w64 (p - 1), q)
    else bif decide (k = 2) then (bif decide (256 < (s.length : Int)) then false else vlBare n [] l.length r, w64 (p - 1), q)
    else bif decide (k = 4) then (bif decide (r < 1) then false else vlBare n s l.length 0, w64 (p - 1), q)
    else bif decide (k = 3) then
      (bif decide (q = 0) || vlMany (w64 (p - 1)) l.length then (false, w64 (p - 1), q)
      else bif (takeVs l (w64 (p - 1)) (w64 (q - 1))).1 then (vlBare n s 0 r, (takeVs l (w64 (p - 1)) (w64 (q - 1))).2.1, w64 ((takeVs l (w64 (p - 1)) (w64 (q - 1))).2.2 + 1))
      else takeVs l (w64 (p - 1)) (w64 (q - 1)))
    else (false, w64 (p - 1), q)
def takeVs : List Vl → Int → Int → Bool × Int × Int
  | [], p, q => (true, p, q)
  | v :: vs, p, q => bif (takeV v p q).1 then takeVs vs (takeV v p q).2.1 (takeV v p q).2.2 else takeV v p q
end
/-- how many parts a value has; 0: it may not be -/
def measure (v : Vl) : Int := bif (takeV v 512 16).1 then w64 (512 - (takeV v 512 16).2.1) else 0
def mayV (v : Vl) : Bool := decide (0 < measure v)
mutual
def sameVl : Vl → Vl → Bool
  | .mk k n s l r, .mk k' n' s' l' r' => decide (k = k') && decide (n = n') && decide (s = s') && decide (r = r') && sameVls l l'
def sameVls : List Vl → List Vl → Bool
  | [], [] => true
  | a :: l, b :: l' => sameVl a b && sameVls l l'
  | _, _ => false
end
mutual
theorem sameVl_iff : ∀ (a b : Vl), sameVl a b = true ↔ a = b
  | .mk k n s l r, .mk k' n' s' l' r' => by
    simp only [sameVl, Bool.and_eq_true, decide_eq_true_eq, sameVls_iff l l', Vl.mk.injEq]
    constructor
    · rintro ⟨⟨⟨⟨h1, h2⟩, h3⟩, h4⟩, h5⟩; exact ⟨h1, h2, h3, h5, h4⟩
    · rintro ⟨h1, h2, h3, h5, h4⟩; exact ⟨⟨⟨⟨h1, h2⟩, h3⟩, h4⟩, h5⟩
theorem sameVls_iff : ∀ (a b : List Vl), sameVls a b = true ↔ a = b
  | [], [] => by simp [sameVls]
  | [], b :: l' => by simp [sameVls]
  | a :: l, [] => by simp [sameVls]
  | a :: l, b :: l' => by simp only [sameVls, Bool.and_eq_true, sameVl_iff a b, sameVls_iff l l', List.cons.injEq]
end

mutual
theorem takeV_left : ∀ (v : Vl) (p q : Int), 0 ≤ p → p ≤ 512 → 0 ≤ (takeV v p q).2.1 ∧ (takeV v p q).2.1 ≤ p ∧ ((takeV v p q).1 = true → (takeV v p q).2.1 < p)
  | .mk k n s l r, p, q, h0, h1 => by
    simp only [takeV]
    by_cases hp : p = 0
    · subst hp; simp
    · have hw : w64 (p - 1) = p - 1 := wrap_i64 (by omega) (by omega)
      have hl := takeVs_left l (p - 1) (w64 (q - 1)) (by omega) (by omega)
      have hd : decide (p = 0) = false := by simp [hp]
      simp only [hd, cond_false, hw]
      generalize takeVs l (p - 1) (w64 (q - 1)) = t at hl
      cases decide (k = 0) <;> cases decide (k = 1) <;> cases decide (k = 2) <;> cases decide (k = 4) <;> cases decide (k = 3) <;> simp only [cond_true, cond_false] <;> try (refine ⟨by omega, by omega, fun _ => by omega⟩)
      all_goals
        cases (decide (q = 0) || vlMany (p - 1) l.length)
        · simp only [cond_false]
          cases ht : t.1
          · simp only [cond_false]; exact ⟨hl.1, by omega, fun h => by rw [ht] at h; cases h⟩
          · simp only [cond_true]; exact ⟨hl.1, by omega, fun _ => by omega⟩
        · simp only [cond_true]; exact ⟨by omega, by omega, fun h => by cases h⟩
theorem takeVs_left : ∀ (vs : List Vl) (p q : Int), 0 ≤ p → p ≤ 512 → 0 ≤ (takeVs vs p q).2.1 ∧ (takeVs vs p q).2.1 ≤ p
  | [], p, q, h0, h1 => by simp only [takeVs]; omega
  | v :: vs, p, q, h0, h1 => by
    simp only [takeVs]
    have hv := takeV_left v p q h0 h1
    cases ht : (takeV v p q).1
    · simp only [cond_false]; exact ⟨hv.1, hv.2.1⟩
    · simp only [cond_true]
      have := takeVs_left vs (takeV v p q).2.1 (takeV v p q).2.2 hv.1 (by omega)
      omega
end
theorem mayV_iff (v : Vl) : mayV v = (takeV v 512 16).1 := by
  unfold mayV measure
  have h := takeV_left v 512 16 (by omega) (by omega)
  cases ht : (takeV v 512 16).1
  · rfl
  · simp only [cond_true]
    have h2 := h.2.2 ht
    have hw : w64 (512 - (takeV v 512 16).2.1) = 512 - (takeV v 512 16).2.1 := wrap_i64 (by omega) (by omega)
    rw [hw]
    simp; omega
theorem measure_le (v : Vl) : 0 ≤ measure v ∧ measure v ≤ 512 := by
  unfold measure
  have h := takeV_left v 512 16 (by omega) (by omega)
  cases ht : (takeV v 512 16).1
  · simp
  · simp only [cond_true]
    have hw : w64 (512 - (takeV v 512 16).2.1) = 512 - (takeV v 512 16).2.1 := wrap_i64 (by omega) (by omega)
    rw [hw]; omega
end Go.Ev
