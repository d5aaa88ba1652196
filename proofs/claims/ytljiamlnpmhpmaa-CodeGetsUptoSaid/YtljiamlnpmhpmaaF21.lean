/- Functions 21, 106, 62, 156 (expressions, names), decompiled, and what they come to. -/
import Derived.Test.YtljiamlnpmhpmaaF68
set_option linter.unusedVariables false
set_option linter.unusedSimpArgs false
noncomputable section
namespace Go.Ev
/-- whether an expression may be -/
def mayEx (e : Ex) : Bool := (mayE e 16 512).1
/-- whether an expression is none -/
def noEx : Ex → Bool
  | .mk k n s l => decide (k = 0) && decide (n = 0) && decide (s = []) && decide ((l.length : Int) = 0)
def orNoEx (e : Ex) : Bool := noEx e || mayEx e
end Go.Ev
namespace Go.Ev.T
open Go Go.Ev Go.Proofs
def f21 (nt : Nat) (X : Call') (n : Nat) (a0 : Int) (a1 : Int) (a2 : List UInt8) (a3T : Nat) (a3C : Cp) (a3 : List Row) : Option (List AV × List AObj) :=
  ((X 68 [AV.agg [AV.int IntKind.u8 a0, AV.int IntKind.i64 a1, AV.str a2, AV.ps a3T 26 a3C a3], AV.ptr 0 0 0 0, AV.int IntKind.i64 16] [AObj.box 3 [AV.int IntKind.i64 512]]).bind fun r10 => some (([AV.bool (AV.toB (nth AV.u (AV.toCells (nth AV.u (Prod.fst r10) 0)) 0))], [])))
theorem f21_q (nt : Nat) (X : Call') (n : Nat) (a0 : Int) (a1 : Int) (a2 : List UInt8) (a3T : Nat) (a3C : Cp) (a3 : List Row) : evBody ⟨L, F, nt, X⟩ (lookV V 21) n Try.f21 (sig F 21).res [AV.agg [AV.int IntKind.u8 a0, AV.int IntKind.i64 a1, AV.str a2, AV.ps a3T 26 a3C a3]] [] = f21 nt X n a0 a1 a2 a3T a3C a3 := by kernel_rfl
def f106 (nt : Nat) (X : Call') (n : Nat) (a0 : Int) (a1 : Int) (a2 : List UInt8) (a3 : List Row) : Option (List AV × List AObj) :=
  (bif decide (a0 = 0) then (bif decide (a1 = 0) then (bif decide (a2 = []) then some (([AV.bool (decide ((↑(List.length a3) : Int) = 0))], [])) else some (([AV.bool false], []))) else some (([AV.bool false], []))) else some (([AV.bool false], [])))
theorem f106_q (nt : Nat) (X : Call') (n : Nat) (a0 : Int) (a1 : Int) (a2 : List UInt8) (a3T : Nat) (a3C : Cp) (a3 : List Row) : evBody ⟨L, F, nt, X⟩ (lookV V 106) n Try.f106 (sig F 106).res [AV.agg [AV.int IntKind.u8 a0, AV.int IntKind.i64 a1, AV.str a2, AV.ps a3T 26 a3C a3]] [] = f106 nt X n a0 a1 a2 a3 := by kernel_rfl
def f62 (nt : Nat) (X : Call') (n : Nat) (a0 : Int) (a1 : Int) (a2 : List UInt8) (a3T : Nat) (a3C : Cp) (a3 : List Row) : Option (List AV × List AObj) :=
  ((X 106 [AV.agg [AV.int IntKind.u8 a0, AV.int IntKind.i64 a1, AV.str a2, AV.ps a3T 26 a3C a3]] []).bind fun r10 => (bif AV.toB (nth AV.u (AV.toCells (nth AV.u (Prod.fst r10) 0)) 0) then some (([AV.bool true], [])) else ((X 21 [AV.agg [AV.int IntKind.u8 a0, AV.int IntKind.i64 a1, AV.str a2, AV.ps a3T 26 a3C a3]] []).bind fun r11 => some (([AV.bool (AV.toB (nth AV.u (AV.toCells (nth AV.u (Prod.fst r11) 0)) 0))], [])))))
theorem f62_q (nt : Nat) (X : Call') (n : Nat) (a0 : Int) (a1 : Int) (a2 : List UInt8) (a3T : Nat) (a3C : Cp) (a3 : List Row) : evBody ⟨L, F, nt, X⟩ (lookV V 62) n Try.f62 (sig F 62).res [AV.agg [AV.int IntKind.u8 a0, AV.int IntKind.i64 a1, AV.str a2, AV.ps a3T 26 a3C a3]] [] = f62 nt X n a0 a1 a2 a3T a3C a3 := by kernel_rfl
def f156 (nt : Nat) (X : Call') (n : Nat) (a : List UInt8) : Option (List AV × List AObj) :=
  ((X 38 [AV.str a] []).bind fun r5 => some (([AV.bool !AV.toB (nth AV.u (AV.toCells (nth AV.u (Prod.fst r5) 0)) 0)], [])))
theorem f156_q (nt : Nat) (X : Call') (n : Nat) (a : List UInt8) : evBody ⟨L, F, nt, X⟩ (lookV V 156) n Try.f156 (sig F 156).res [AV.str a] [] = f156 nt X n a := by kernel_rfl

def sp21 : Sp
  | [.agg [.int .u8 k, .int .i64 n, .str s, .ps _ 26 _ l]], [] => bif Nat.blt (szR l) big then some ([.bool (mayEx (.mk k n s (exsOf l)))], []) else none
  | _, _ => none
theorem told21 (nt : Nat) : Facts nt 21 sp21 := fun args h rs h' hv => by
  unfold sp21 at hv
  split at hv
  · rename_i k n s T C l
    cases hb : Nat.blt (szR l) big
    · rw [hb] at hv; cases hv
    · rw [hb] at hv
      refine fact_tab Try.func21 [⟨68, sp68 big, told68 nt big (Nat.le_refl _)⟩] 1 ?_
      rw [f21_q, ← hv]
      simp only [f21, tab_hit, sp68, hb, cond_true, Option.bind_some, toI_int, toB_bool, toCells_bool, toRow_box, nth_zero, mayEx]
  · cases hv
def sp106 : Sp
  | [.agg [.int .u8 k, .int .i64 n, .str s, .ps _ 26 _ l]], [] => some ([.bool (noEx (.mk k n s (exsOf l)))], [])
  | _, _ => none
theorem told106 (nt : Nat) : Facts nt 106 sp106 := fun args h rs h' hv => by
  unfold sp106 at hv
  split at hv
  · rename_i k n s T C l
    refine fact_tab Try.func106 [] 1 ?_
    rw [f106_q, ← hv]
    have hlen : (exsOf l).length = l.length := by simp [exsOf]
    simp only [f106, noEx]
    rw [hlen]
    generalize decide (k = 0) = b1
    generalize decide (n = 0) = b2
    generalize decide (s = []) = b3
    cases b1 <;> cases b2 <;> cases b3 <;> rfl
  · cases hv
def sp62 : Sp
  | [.agg [.int .u8 k, .int .i64 n, .str s, .ps _ 26 _ l]], [] => bif Nat.blt (szR l) big then some ([.bool (orNoEx (.mk k n s (exsOf l)))], []) else none
  | _, _ => none
theorem told62 (nt : Nat) : Facts nt 62 sp62 := fun args h rs h' hv => by
  unfold sp62 at hv
  split at hv
  · rename_i k n s T C l
    cases hb : Nat.blt (szR l) big
    · rw [hb] at hv; cases hv
    · rw [hb] at hv
      refine fact_tab Try.func62 [⟨106, sp106, told106 nt⟩, ⟨21, sp21, told21 nt⟩] 1 ?_
      rw [f62_q, ← hv]
      have e21 : ∀ ts : List (Told nt), tab (⟨106, sp106, told106 nt⟩ :: ⟨21, sp21, told21 nt⟩ :: ts) 21 [AV.agg [AV.int IntKind.u8 k, AV.int IntKind.i64 n, AV.str s, AV.ps T 26 C l]] [] = some ([.bool (mayEx (.mk k n s (exsOf l)))], []) := fun ts => by
        rw [tab_miss rfl, tab_hit]; simp only [sp21, hb, cond_true]
      simp only [f62, tab_hit, e21, sp106, cond_true, Option.bind_some, toI_int, toB_bool, toCells_bool, toRow_box, nth_zero, orNoEx]
      cases noEx (.mk k n s (exsOf l)) <;> rfl
  · cases hv
def sp156 : Sp
  | [.str s], [] => some ([.bool (!mayName s)], [])
  | _, _ => none
theorem told156 (nt : Nat) : Facts nt 156 sp156 := fun args h rs h' hv => by
  unfold sp156 at hv
  split at hv
  · refine fact_tab Try.func156 [⟨38, sp38, told38 nt⟩] 1 ?_
    rw [f156_q, ← hv]
    simp only [f156, tab_hit, sp38, Option.bind_some, toB_bool, toCells_bool, nth_zero]
  · cases hv
end Go.Ev.T
