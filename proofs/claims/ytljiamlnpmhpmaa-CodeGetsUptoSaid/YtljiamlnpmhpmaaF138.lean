/- Functions 155, 140, 138, 139, 142, 143, 144, 146, 147, 148 (abilities; the forms of statements), decompiled, and what they come to. -/
import Derived.Test.YtljiamlnpmhpmaaF87
set_option linter.unusedVariables false
set_option linter.unusedSimpArgs false
noncomputable section
namespace Go.Ev
def popTab : List UInt8 := [UInt8.ofNat 0, UInt8.ofNat 1, UInt8.ofNat 1, UInt8.ofNat 2, UInt8.ofNat 1, UInt8.ofNat 2, UInt8.ofNat 2, UInt8.ofNat 3, UInt8.ofNat 1, UInt8.ofNat 2, UInt8.ofNat 2, UInt8.ofNat 3, UInt8.ofNat 2, UInt8.ofNat 3, UInt8.ofNat 3, UInt8.ofNat 4, UInt8.ofNat 1, UInt8.ofNat 2, UInt8.ofNat 2, UInt8.ofNat 3, UInt8.ofNat 2, UInt8.ofNat 3, UInt8.ofNat 3, UInt8.ofNat 4, UInt8.ofNat 2, UInt8.ofNat 3, UInt8.ofNat 3, UInt8.ofNat 4, UInt8.ofNat 3, UInt8.ofNat 4, UInt8.ofNat 4, UInt8.ofNat 5, UInt8.ofNat 1, UInt8.ofNat 2, UInt8.ofNat 2, UInt8.ofNat 3, UInt8.ofNat 2, UInt8.ofNat 3, UInt8.ofNat 3, UInt8.ofNat 4, UInt8.ofNat 2, UInt8.ofNat 3, UInt8.ofNat 3, UInt8.ofNat 4, UInt8.ofNat 3, UInt8.ofNat 4, UInt8.ofNat 4, UInt8.ofNat 5, UInt8.ofNat 2, UInt8.ofNat 3, UInt8.ofNat 3, UInt8.ofNat 4, UInt8.ofNat 3, UInt8.ofNat 4, UInt8.ofNat 4, UInt8.ofNat 5, UInt8.ofNat 3, UInt8.ofNat 4, UInt8.ofNat 4, UInt8.ofNat 5, UInt8.ofNat 4, UInt8.ofNat 5, UInt8.ofNat 5, UInt8.ofNat 6, UInt8.ofNat 1, UInt8.ofNat 2, UInt8.ofNat 2, UInt8.ofNat 3, UInt8.ofNat 2, UInt8.ofNat 3, UInt8.ofNat 3, UInt8.ofNat 4, UInt8.ofNat 2, UInt8.ofNat 3, UInt8.ofNat 3, UInt8.ofNat 4, UInt8.ofNat 3, UInt8.ofNat 4, UInt8.ofNat 4, UInt8.ofNat 5, UInt8.ofNat 2, UInt8.ofNat 3, UInt8.ofNat 3, UInt8.ofNat 4, UInt8.ofNat 3, UInt8.ofNat 4, UInt8.ofNat 4, UInt8.ofNat 5, UInt8.ofNat 3, UInt8.ofNat 4, UInt8.ofNat 4, UInt8.ofNat 5, UInt8.ofNat 4, UInt8.ofNat 5, UInt8.ofNat 5, UInt8.ofNat 6, UInt8.ofNat 2, UInt8.ofNat 3, UInt8.ofNat 3, UInt8.ofNat 4, UInt8.ofNat 3, UInt8.ofNat 4, UInt8.ofNat 4, UInt8.ofNat 5, UInt8.ofNat 3, UInt8.ofNat 4, UInt8.ofNat 4, UInt8.ofNat 5, UInt8.ofNat 4, UInt8.ofNat 5, UInt8.ofNat 5, UInt8.ofNat 6, UInt8.ofNat 3, UInt8.ofNat 4, UInt8.ofNat 4, UInt8.ofNat 5, UInt8.ofNat 4, UInt8.ofNat 5, UInt8.ofNat 5, UInt8.ofNat 6, UInt8.ofNat 4, UInt8.ofNat 5, UInt8.ofNat 5, UInt8.ofNat 6, UInt8.ofNat 5, UInt8.ofNat 6, UInt8.ofNat 6, UInt8.ofNat 7, UInt8.ofNat 1, UInt8.ofNat 2, UInt8.ofNat 2, UInt8.ofNat 3, UInt8.ofNat 2, UInt8.ofNat 3, UInt8.ofNat 3, UInt8.ofNat 4, UInt8.ofNat 2, UInt8.ofNat 3, UInt8.ofNat 3, UInt8.ofNat 4, UInt8.ofNat 3, UInt8.ofNat 4, UInt8.ofNat 4, UInt8.ofNat 5, UInt8.ofNat 2, UInt8.ofNat 3, UInt8.ofNat 3, UInt8.ofNat 4, UInt8.ofNat 3, UInt8.ofNat 4, UInt8.ofNat 4, UInt8.ofNat 5, UInt8.ofNat 3, UInt8.ofNat 4, UInt8.ofNat 4, UInt8.ofNat 5, UInt8.ofNat 4, UInt8.ofNat 5, UInt8.ofNat 5, UInt8.ofNat 6, UInt8.ofNat 2, UInt8.ofNat 3, UInt8.ofNat 3, UInt8.ofNat 4, UInt8.ofNat 3, UInt8.ofNat 4, UInt8.ofNat 4, UInt8.ofNat 5, UInt8.ofNat 3, UInt8.ofNat 4, UInt8.ofNat 4, UInt8.ofNat 5, UInt8.ofNat 4, UInt8.ofNat 5, UInt8.ofNat 5, UInt8.ofNat 6, UInt8.ofNat 3, UInt8.ofNat 4, UInt8.ofNat 4, UInt8.ofNat 5, UInt8.ofNat 4, UInt8.ofNat 5, UInt8.ofNat 5, UInt8.ofNat 6, UInt8.ofNat 4, UInt8.ofNat 5, UInt8.ofNat 5, UInt8.ofNat 6, UInt8.ofNat 5, UInt8.ofNat 6, UInt8.ofNat 6, UInt8.ofNat 7, UInt8.ofNat 2, UInt8.ofNat 3, UInt8.ofNat 3, UInt8.ofNat 4, UInt8.ofNat 3, UInt8.ofNat 4, UInt8.ofNat 4, UInt8.ofNat 5, UInt8.ofNat 3, UInt8.ofNat 4, UInt8.ofNat 4, UInt8.ofNat 5, UInt8.ofNat 4, UInt8.ofNat 5, UInt8.ofNat 5, UInt8.ofNat 6, UInt8.ofNat 3, UInt8.ofNat 4, UInt8.ofNat 4, UInt8.ofNat 5, UInt8.ofNat 4, UInt8.ofNat 5, UInt8.ofNat 5, UInt8.ofNat 6, UInt8.ofNat 4, UInt8.ofNat 5, UInt8.ofNat 5, UInt8.ofNat 6, UInt8.ofNat 5, UInt8.ofNat 6, UInt8.ofNat 6, UInt8.ofNat 7, UInt8.ofNat 3, UInt8.ofNat 4, UInt8.ofNat 4, UInt8.ofNat 5, UInt8.ofNat 4, UInt8.ofNat 5, UInt8.ofNat 5, UInt8.ofNat 6, UInt8.ofNat 4, UInt8.ofNat 5, UInt8.ofNat 5, UInt8.ofNat 6, UInt8.ofNat 5, UInt8.ofNat 6, UInt8.ofNat 6, UInt8.ofNat 7, UInt8.ofNat 4, UInt8.ofNat 5, UInt8.ofNat 5, UInt8.ofNat 6, UInt8.ofNat 5, UInt8.ofNat 6, UInt8.ofNat 6, UInt8.ofNat 7, UInt8.ofNat 5, UInt8.ofNat 6, UInt8.ofNat 6, UInt8.ofNat 7, UInt8.ofNat 6, UInt8.ofNat 7, UInt8.ofNat 7, UInt8.ofNat 8]
def popc (a : Int) : Int := IntKind.wrap .i64 ((nth (UInt8.ofNat 0) popTab a.toNat).toNat : Int)
def mayAb (a : Int) : Bool := decide (bitsOf .andNot .u8 a 63 = 0)
def oneAb (a : Int) : Bool := mayAb a && decide (popc a = 1)
def inU8 (a : Int) : Bool := decide (0 ≤ a) && decide (a < 256)
end Go.Ev
namespace Go.Ev.T
open Go Go.Ev Go.Proofs

def sp155 : Sp
  | [.int .u8 a], [] => bif inU8 a then some ([.int .i64 (popc a)], []) else none
  | _, _ => none
theorem told155 (nt : Nat) : Facts nt 155 sp155 := fun args h rs h' hv => by
  unfold sp155 at hv
  split at hv
  · rename_i a
    cases hb : inU8 a
    · rw [hb] at hv; cases hv
    · rw [hb] at hv
      refine fact_tab Try.func155 [] 1 ?_
      rw [f155_q, ← hv]
      unfold inU8 at hb
      unfold f155
      rw [hb]
      rfl
  · cases hv
def sp140 : Sp
  | [.int .u8 a], [] => bif inU8 a then some ([.bool (oneAb a)], []) else none
  | _, _ => none
theorem told140 (nt : Nat) : Facts nt 140 sp140 := fun args h rs h' hv => by
  unfold sp140 at hv
  split at hv
  · rename_i a
    cases hb : inU8 a
    · rw [hb] at hv; cases hv
    · rw [hb] at hv
      refine fact_tab Try.func140 [⟨145, sp145, told145 nt⟩, ⟨155, sp155, told155 nt⟩] 1 ?_
      rw [f140_q, ← hv]
      have e155 : tab [⟨145, sp145, told145 nt⟩, ⟨155, sp155, told155 nt⟩] 155 [AV.int IntKind.u8 a] [] = some ([.int .i64 (popc a)], []) := by
        rw [tab_miss rfl, tab_hit]; simp only [sp155, hb, cond_true]
      simp only [f140, tab_hit, sp145, e155, Option.bind_some, toI_int, toB_bool, toCells_bool, toCells_int, nth_zero, oneAb, mayAb]
      generalize decide (bitsOf BinOp.andNot IntKind.u8 a 63 = 0) = b
      cases b <;> rfl
  · cases hv
/-- the facts that the forms ask -/
def TS (nt : Nat) : List (Told nt) := [⟨38, sp38, told38 nt⟩, ⟨21, sp21, told21 nt⟩, ⟨62, sp62, told62 nt⟩, ⟨106, sp106, told106 nt⟩, ⟨145, sp145, told145 nt⟩, ⟨140, sp140, told140 nt⟩, ⟨86, sp86, told86 nt⟩, ⟨87, sp87, told87 nt⟩]
theorem ts38 {nt : Nat} {s : List UInt8} : tab (TS nt) 38 [.str s] [] = some ([.bool (mayName s)], []) := rfl
theorem ts21 {nt : Nat} {k n : Int} {s : List UInt8} {t : Nat} {c : Cp} {l : List Row} (h : Nat.blt (szR l) big = true) : tab (TS nt) 21 [.agg [.int .u8 k, .int .i64 n, .str s, .ps t 26 c l]] [] = some ([.bool (mayEx (.mk k n s (exsOf l)))], []) := by
  unfold TS; rw [tab_miss rfl, tab_hit]; simp only [sp21, h, cond_true]
theorem ts62 {nt : Nat} {k n : Int} {s : List UInt8} {t : Nat} {c : Cp} {l : List Row} (h : Nat.blt (szR l) big = true) : tab (TS nt) 62 [.agg [.int .u8 k, .int .i64 n, .str s, .ps t 26 c l]] [] = some ([.bool (orNoEx (.mk k n s (exsOf l)))], []) := by
  unfold TS; rw [tab_miss rfl, tab_miss rfl, tab_hit]; simp only [sp62, h, cond_true]
theorem ts106 {nt : Nat} {k n : Int} {s : List UInt8} {t : Nat} {c : Cp} {l : List Row} : tab (TS nt) 106 [.agg [.int .u8 k, .int .i64 n, .str s, .ps t 26 c l]] [] = some ([.bool (noEx (.mk k n s (exsOf l)))], []) := rfl
theorem ts145 {nt : Nat} {a : Int} : tab (TS nt) 145 [.int .u8 a] [] = some ([.bool (mayAb a)], []) := rfl
theorem ts140 {nt : Nat} {a : Int} (h : inU8 a = true) : tab (TS nt) 140 [.int .u8 a] [] = some ([.bool (oneAb a)], []) := by
  unfold TS; rw [tab_miss rfl, tab_miss rfl, tab_miss rfl, tab_miss rfl, tab_miss rfl, tab_hit]; simp only [sp140, h, cond_true]
theorem ts86 {nt : Nat} {t : Nat} {c : Cp} {l : List Row} (h : Nat.blt l.length big = true) : tab (TS nt) 86 [.ps t 9 c l] [] = some ([.bool (twice (strsOf l))], []) := by
  unfold TS; rw [tab_miss rfl, tab_miss rfl, tab_miss rfl, tab_miss rfl, tab_miss rfl, tab_miss rfl, tab_hit]; simp only [sp86, h, cond_true]
theorem ts87 {nt : Nat} {t : Nat} {c : Cp} {l : List Row} (h : Nat.blt l.length big = true) : tab (TS nt) 87 [.ps t 9 c l, .func (some 156) []] [] = some ([.bool (!(strsOf l).all mayName)], []) := by
  unfold TS; rw [tab_miss rfl, tab_miss rfl, tab_miss rfl, tab_miss rfl, tab_miss rfl, tab_miss rfl, tab_miss rfl, tab_hit]; simp only [sp87, h, cond_true]
/-- what the forms ask of a statement's sizes -/
def gS (ab : Int) (l l2 l6 : List Row) : Bool := Nat.blt (szR l) big && Nat.blt (szR l2) big && Nat.blt l6.length big && inU8 ab
theorem gS_iff {ab : Int} {l l2 l6 : List Row} (h : gS ab l l2 l6 = true) : Nat.blt (szR l) big = true ∧ Nat.blt (szR l2) big = true ∧ Nat.blt l6.length big = true ∧ inU8 ab = true := by
  simp only [gS, Bool.and_eq_true] at h
  exact ⟨h.1.1.1, h.1.1.2, h.1.2, h.2⟩
def f138 (nt : Nat) (X : Call') (n : Nat) (a1 : List UInt8) (a5 : Int) (a6 : Int) (a7 : List UInt8) (a8T : Nat) (a8C : Cp) (a8 : List Row) : Option (List AV × List AObj) :=
  ((X 38 [AV.str a1] []).bind fun r33 => (bif AV.toB (nth AV.u (AV.toCells (nth AV.u (Prod.fst r33) 0)) 0) then ((X 62 [AV.agg [AV.int IntKind.u8 a5, AV.int IntKind.i64 a6, AV.str a7, AV.ps a8T 26 a8C a8]] []).bind fun r34 => some (([AV.agg [AV.int IntKind.u8 0, AV.str a1, AV.str [], AV.int IntKind.u8 0, AV.int IntKind.u8 0, AV.int IntKind.u8 a5, AV.int IntKind.i64 a6, AV.str a7, AV.ps a8T 26 a8C a8, AV.int IntKind.u8 0, AV.int IntKind.i64 0, AV.str [], AV.ps 0 26 (Cp.mk true true) [], AV.ps 0 58 (Cp.mk true true) [], AV.ps 0 58 (Cp.mk true true) [], AV.ps 0 58 (Cp.mk true true) [], AV.ps 0 9 (Cp.mk true true) []], AV.bool (AV.toB (nth AV.u (AV.toCells (nth AV.u (Prod.fst r34) 0)) 0))], []))) else some (([AV.agg [AV.int IntKind.u8 0, AV.str a1, AV.str [], AV.int IntKind.u8 0, AV.int IntKind.u8 0, AV.int IntKind.u8 a5, AV.int IntKind.i64 a6, AV.str a7, AV.ps a8T 26 a8C a8, AV.int IntKind.u8 0, AV.int IntKind.i64 0, AV.str [], AV.ps 0 26 (Cp.mk true true) [], AV.ps 0 58 (Cp.mk true true) [], AV.ps 0 58 (Cp.mk true true) [], AV.ps 0 58 (Cp.mk true true) [], AV.ps 0 9 (Cp.mk true true) []], AV.bool false], []))))
theorem f138_q (nt : Nat) (X : Call') (n : Nat) (a0 : Int) (a1 : List UInt8) (a2 : List UInt8) (a3 : Int) (a4 : Int) (a5 : Int) (a6 : Int) (a7 : List UInt8) (a8T : Nat) (a8C : Cp) (a8 : List Row) (a9 : Int) (a10 : Int) (a11 : List UInt8) (a12T : Nat) (a12C : Cp) (a12 : List Row) (a13T : Nat) (a13C : Cp) (a13 : List Row) (a14T : Nat) (a14C : Cp) (a14 : List Row) (a15T : Nat) (a15C : Cp) (a15 : List Row) (a16T : Nat) (a16C : Cp) (a16 : List Row) : evBody ⟨L, F, nt, X⟩ (lookV V 138) n Try.f138 (sig F 138).res [AV.agg [AV.int IntKind.u8 a0, AV.str a1, AV.str a2, AV.int IntKind.u8 a3, AV.int IntKind.u8 a4, AV.int IntKind.u8 a5, AV.int IntKind.i64 a6, AV.str a7, AV.ps a8T 26 a8C a8, AV.int IntKind.u8 a9, AV.int IntKind.i64 a10, AV.str a11, AV.ps a12T 26 a12C a12, AV.ps a13T 58 a13C a13, AV.ps a14T 58 a14C a14, AV.ps a15T 58 a15C a15, AV.ps a16T 9 a16C a16]] [] = f138 nt X n a1 a5 a6 a7 a8T a8C a8 := by kernel_rfl
def sp138 : Sp
  | [.agg [.int .u8 op, .str nm, .str sec, .int .u8 ab, .int .u8 wh, .int .u8 k, .int .i64 n, .str s, .ps t 26 c l, .int .u8 k2, .int .i64 n2, .str s2, .ps t2 26 c2 l2, .ps t3 58 c3 l3, .ps t4 58 c4 l4, .ps t5 58 c5 l5, .ps t6 9 c6 l6]], [] => bif gS ab l l2 l6 then some ([.agg [.int .u8 0, .str nm, .str [], .int .u8 0, .int .u8 0, .int .u8 k, .int .i64 n, .str s, .ps t 26 c l, .int .u8 0, .int .i64 0, .str [], .ps 0 26 ⟨true, true⟩ [], .ps 0 58 ⟨true, true⟩ [], .ps 0 58 ⟨true, true⟩ [], .ps 0 58 ⟨true, true⟩ [], .ps 0 9 ⟨true, true⟩ []], .bool (mayName nm && orNoEx (.mk k n s (exsOf l)))], []) else none
  | _, _ => none
theorem told138 (nt : Nat) : Facts nt 138 sp138 := fun args h rs h' hv => by
  unfold sp138 at hv
  split at hv
  · rename_i op nm sec ab wh k n s t c l k2 n2 s2 t2 c2 l2 t3 c3 l3 t4 c4 l4 t5 c5 l5 t6 c6 l6
    cases hb : gS ab l l2 l6
    · rw [hb] at hv; cases hv
    · rw [hb] at hv
      obtain ⟨g1, g2, g3, g4⟩ := gS_iff hb
      refine fact_tab Try.func138 (TS nt) 1 ?_
      rw [f138_q, ← hv]
      simp only [f138, ts38, ts21 g1, ts21 g2, ts62 g1, ts62 g2, ts106, ts145, ts140 g4, Option.bind_some, toB_bool, toCells_bool, nth_zero, cond_true]
      generalize mayName nm = b1
      generalize mayEx (.mk k n s (exsOf l)) = b2
      generalize orNoEx (.mk k n s (exsOf l)) = b3
      generalize mayEx (.mk k2 n2 s2 (exsOf l2)) = b4
      generalize orNoEx (.mk k2 n2 s2 (exsOf l2)) = b5
      generalize noEx (.mk k2 n2 s2 (exsOf l2)) = b6
      generalize oneAb ab = b7
      generalize mayAb ab = b8
      generalize decide (ab = 1) = b9
      generalize decide (ab = 32) = b10
      first
        | rfl
        | (cases b1 <;> first | rfl | (cases b3 <;> rfl))
        | (cases b1 <;> cases b2 <;> cases b4 <;> rfl)
        | (cases b2 <;> cases b8 <;> rfl)
        | (cases b3 <;> cases b5 <;> rfl)
        | (cases b1 <;> cases b2 <;> cases b5 <;> cases b6 <;> cases b7 <;> cases b9 <;> cases b10 <;> rfl)
  · cases hv
def f139_J2 (nt : Nat) (X : Call') (n : Nat) (a1 : List UInt8) (a3 : Int) (a5 : Int) (a6 : Int) (a7 : List UInt8) (a8T : Nat) (a8C : Cp) (a8 : List Row) (a9 : Int) (a10 : Int) (a11 : List UInt8) (a12T : Nat) (a12C : Cp) (a12 : List Row) (b37 : Bool) : Option (List AV × List AObj) :=
  (bif b37 then ((X 106 [AV.agg [AV.int IntKind.u8 a9, AV.int IntKind.i64 a10, AV.str a11, AV.ps a12T 26 a12C a12]] []).bind fun r38 => (bif AV.toB (nth AV.u (AV.toCells (nth AV.u (Prod.fst r38) 0)) 0) then some (([AV.agg [AV.int IntKind.u8 0, AV.str a1, AV.str [], AV.int IntKind.u8 a3, AV.int IntKind.u8 0, AV.int IntKind.u8 a5, AV.int IntKind.i64 a6, AV.str a7, AV.ps a8T 26 a8C a8, AV.int IntKind.u8 a9, AV.int IntKind.i64 a10, AV.str a11, AV.ps a12T 26 a12C a12, AV.ps 0 58 (Cp.mk true true) [], AV.ps 0 58 (Cp.mk true true) [], AV.ps 0 58 (Cp.mk true true) [], AV.ps 0 9 (Cp.mk true true) []], AV.bool true], [])) else (bif !decide (a3 = 1) then some (([AV.agg [AV.int IntKind.u8 0, AV.str a1, AV.str [], AV.int IntKind.u8 a3, AV.int IntKind.u8 0, AV.int IntKind.u8 a5, AV.int IntKind.i64 a6, AV.str a7, AV.ps a8T 26 a8C a8, AV.int IntKind.u8 a9, AV.int IntKind.i64 a10, AV.str a11, AV.ps a12T 26 a12C a12, AV.ps 0 58 (Cp.mk true true) [], AV.ps 0 58 (Cp.mk true true) [], AV.ps 0 58 (Cp.mk true true) [], AV.ps 0 9 (Cp.mk true true) []], AV.bool !decide (a3 = 32)], [])) else some (([AV.agg [AV.int IntKind.u8 0, AV.str a1, AV.str [], AV.int IntKind.u8 a3, AV.int IntKind.u8 0, AV.int IntKind.u8 a5, AV.int IntKind.i64 a6, AV.str a7, AV.ps a8T 26 a8C a8, AV.int IntKind.u8 a9, AV.int IntKind.i64 a10, AV.str a11, AV.ps a12T 26 a12C a12, AV.ps 0 58 (Cp.mk true true) [], AV.ps 0 58 (Cp.mk true true) [], AV.ps 0 58 (Cp.mk true true) [], AV.ps 0 9 (Cp.mk true true) []], AV.bool false], []))))) else some (([AV.agg [AV.int IntKind.u8 0, AV.str a1, AV.str [], AV.int IntKind.u8 a3, AV.int IntKind.u8 0, AV.int IntKind.u8 a5, AV.int IntKind.i64 a6, AV.str a7, AV.ps a8T 26 a8C a8, AV.int IntKind.u8 a9, AV.int IntKind.i64 a10, AV.str a11, AV.ps a12T 26 a12C a12, AV.ps 0 58 (Cp.mk true true) [], AV.ps 0 58 (Cp.mk true true) [], AV.ps 0 58 (Cp.mk true true) [], AV.ps 0 9 (Cp.mk true true) []], AV.bool false], [])))
def f139 (nt : Nat) (X : Call') (n : Nat) (a1 : List UInt8) (a3 : Int) (a5 : Int) (a6 : Int) (a7 : List UInt8) (a8T : Nat) (a8C : Cp) (a8 : List Row) (a9 : Int) (a10 : Int) (a11 : List UInt8) (a12T : Nat) (a12C : Cp) (a12 : List Row) : Option (List AV × List AObj) :=
  ((X 38 [AV.str a1] []).bind fun r33 => (bif AV.toB (nth AV.u (AV.toCells (nth AV.u (Prod.fst r33) 0)) 0) then ((X 140 [AV.int IntKind.u8 a3] []).bind fun r34 => (bif AV.toB (nth AV.u (AV.toCells (nth AV.u (Prod.fst r34) 0)) 0) then ((X 21 [AV.agg [AV.int IntKind.u8 a5, AV.int IntKind.i64 a6, AV.str a7, AV.ps a8T 26 a8C a8]] []).bind fun r35 => (bif AV.toB (nth AV.u (AV.toCells (nth AV.u (Prod.fst r35) 0)) 0) then ((X 62 [AV.agg [AV.int IntKind.u8 a9, AV.int IntKind.i64 a10, AV.str a11, AV.ps a12T 26 a12C a12]] []).bind fun r36 => f139_J2 nt X n a1 a3 a5 a6 a7 a8T a8C a8 a9 a10 a11 a12T a12C a12 (AV.toB (nth AV.u (AV.toCells (nth AV.u (Prod.fst r36) 0)) 0))) else f139_J2 nt X n a1 a3 a5 a6 a7 a8T a8C a8 a9 a10 a11 a12T a12C a12 (false))) else f139_J2 nt X n a1 a3 a5 a6 a7 a8T a8C a8 a9 a10 a11 a12T a12C a12 (false))) else f139_J2 nt X n a1 a3 a5 a6 a7 a8T a8C a8 a9 a10 a11 a12T a12C a12 (false)))
theorem f139_q (nt : Nat) (X : Call') (n : Nat) (a0 : Int) (a1 : List UInt8) (a2 : List UInt8) (a3 : Int) (a4 : Int) (a5 : Int) (a6 : Int) (a7 : List UInt8) (a8T : Nat) (a8C : Cp) (a8 : List Row) (a9 : Int) (a10 : Int) (a11 : List UInt8) (a12T : Nat) (a12C : Cp) (a12 : List Row) (a13T : Nat) (a13C : Cp) (a13 : List Row) (a14T : Nat) (a14C : Cp) (a14 : List Row) (a15T : Nat) (a15C : Cp) (a15 : List Row) (a16T : Nat) (a16C : Cp) (a16 : List Row) : evBody ⟨L, F, nt, X⟩ (lookV V 139) n Try.f139 (sig F 139).res [AV.agg [AV.int IntKind.u8 a0, AV.str a1, AV.str a2, AV.int IntKind.u8 a3, AV.int IntKind.u8 a4, AV.int IntKind.u8 a5, AV.int IntKind.i64 a6, AV.str a7, AV.ps a8T 26 a8C a8, AV.int IntKind.u8 a9, AV.int IntKind.i64 a10, AV.str a11, AV.ps a12T 26 a12C a12, AV.ps a13T 58 a13C a13, AV.ps a14T 58 a14C a14, AV.ps a15T 58 a15C a15, AV.ps a16T 9 a16C a16]] [] = f139 nt X n a1 a3 a5 a6 a7 a8T a8C a8 a9 a10 a11 a12T a12C a12 := by kernel_rfl
def sp139 : Sp
  | [.agg [.int .u8 op, .str nm, .str sec, .int .u8 ab, .int .u8 wh, .int .u8 k, .int .i64 n, .str s, .ps t 26 c l, .int .u8 k2, .int .i64 n2, .str s2, .ps t2 26 c2 l2, .ps t3 58 c3 l3, .ps t4 58 c4 l4, .ps t5 58 c5 l5, .ps t6 9 c6 l6]], [] => bif gS ab l l2 l6 then some ([.agg [.int .u8 0, .str nm, .str [], .int .u8 ab, .int .u8 0, .int .u8 k, .int .i64 n, .str s, .ps t 26 c l, .int .u8 k2, .int .i64 n2, .str s2, .ps t2 26 c2 l2, .ps 0 58 ⟨true, true⟩ [], .ps 0 58 ⟨true, true⟩ [], .ps 0 58 ⟨true, true⟩ [], .ps 0 9 ⟨true, true⟩ []], .bool (mayName nm && oneAb ab && mayEx (.mk k n s (exsOf l)) && orNoEx (.mk k2 n2 s2 (exsOf l2)) && (noEx (.mk k2 n2 s2 (exsOf l2)) || (!decide (ab = 1) && !decide (ab = 32))))], []) else none
  | _, _ => none
theorem told139 (nt : Nat) : Facts nt 139 sp139 := fun args h rs h' hv => by
  unfold sp139 at hv
  split at hv
  · rename_i op nm sec ab wh k n s t c l k2 n2 s2 t2 c2 l2 t3 c3 l3 t4 c4 l4 t5 c5 l5 t6 c6 l6
    cases hb : gS ab l l2 l6
    · rw [hb] at hv; cases hv
    · rw [hb] at hv
      obtain ⟨g1, g2, g3, g4⟩ := gS_iff hb
      refine fact_tab Try.func139 (TS nt) 1 ?_
      rw [f139_q, ← hv]
      simp only [f139, f139_J2, ts38, ts21 g1, ts21 g2, ts62 g1, ts62 g2, ts106, ts145, ts140 g4, Option.bind_some, toB_bool, toCells_bool, nth_zero, cond_true]
      generalize mayName nm = b1
      generalize mayEx (.mk k n s (exsOf l)) = b2
      generalize orNoEx (.mk k n s (exsOf l)) = b3
      generalize mayEx (.mk k2 n2 s2 (exsOf l2)) = b4
      generalize orNoEx (.mk k2 n2 s2 (exsOf l2)) = b5
      generalize noEx (.mk k2 n2 s2 (exsOf l2)) = b6
      generalize oneAb ab = b7
      generalize mayAb ab = b8
      generalize decide (ab = 1) = b9
      generalize decide (ab = 32) = b10
      first
        | rfl
        | (cases b1 <;> first | rfl | (cases b3 <;> rfl))
        | (cases b1 <;> cases b2 <;> cases b4 <;> rfl)
        | (cases b2 <;> cases b8 <;> rfl)
        | (cases b3 <;> cases b5 <;> rfl)
        | (cases b1 <;> cases b2 <;> cases b5 <;> cases b6 <;> cases b7 <;> cases b9 <;> cases b10 <;> rfl)
  · cases hv
def f142 (nt : Nat) (X : Call') (n : Nat) (a1 : List UInt8) (a5 : Int) (a6 : Int) (a7 : List UInt8) (a8T : Nat) (a8C : Cp) (a8 : List Row) (a9 : Int) (a10 : Int) (a11 : List UInt8) (a12T : Nat) (a12C : Cp) (a12 : List Row) : Option (List AV × List AObj) :=
  ((X 38 [AV.str a1] []).bind fun r33 => (bif AV.toB (nth AV.u (AV.toCells (nth AV.u (Prod.fst r33) 0)) 0) then ((X 21 [AV.agg [AV.int IntKind.u8 a5, AV.int IntKind.i64 a6, AV.str a7, AV.ps a8T 26 a8C a8]] []).bind fun r34 => (bif AV.toB (nth AV.u (AV.toCells (nth AV.u (Prod.fst r34) 0)) 0) then ((X 21 [AV.agg [AV.int IntKind.u8 a9, AV.int IntKind.i64 a10, AV.str a11, AV.ps a12T 26 a12C a12]] []).bind fun r35 => some (([AV.agg [AV.int IntKind.u8 0, AV.str a1, AV.str [], AV.int IntKind.u8 0, AV.int IntKind.u8 0, AV.int IntKind.u8 a5, AV.int IntKind.i64 a6, AV.str a7, AV.ps a8T 26 a8C a8, AV.int IntKind.u8 a9, AV.int IntKind.i64 a10, AV.str a11, AV.ps a12T 26 a12C a12, AV.ps 0 58 (Cp.mk true true) [], AV.ps 0 58 (Cp.mk true true) [], AV.ps 0 58 (Cp.mk true true) [], AV.ps 0 9 (Cp.mk true true) []], AV.bool (AV.toB (nth AV.u (AV.toCells (nth AV.u (Prod.fst r35) 0)) 0))], []))) else some (([AV.agg [AV.int IntKind.u8 0, AV.str a1, AV.str [], AV.int IntKind.u8 0, AV.int IntKind.u8 0, AV.int IntKind.u8 a5, AV.int IntKind.i64 a6, AV.str a7, AV.ps a8T 26 a8C a8, AV.int IntKind.u8 a9, AV.int IntKind.i64 a10, AV.str a11, AV.ps a12T 26 a12C a12, AV.ps 0 58 (Cp.mk true true) [], AV.ps 0 58 (Cp.mk true true) [], AV.ps 0 58 (Cp.mk true true) [], AV.ps 0 9 (Cp.mk true true) []], AV.bool false], [])))) else some (([AV.agg [AV.int IntKind.u8 0, AV.str a1, AV.str [], AV.int IntKind.u8 0, AV.int IntKind.u8 0, AV.int IntKind.u8 a5, AV.int IntKind.i64 a6, AV.str a7, AV.ps a8T 26 a8C a8, AV.int IntKind.u8 a9, AV.int IntKind.i64 a10, AV.str a11, AV.ps a12T 26 a12C a12, AV.ps 0 58 (Cp.mk true true) [], AV.ps 0 58 (Cp.mk true true) [], AV.ps 0 58 (Cp.mk true true) [], AV.ps 0 9 (Cp.mk true true) []], AV.bool false], []))))
theorem f142_q (nt : Nat) (X : Call') (n : Nat) (a0 : Int) (a1 : List UInt8) (a2 : List UInt8) (a3 : Int) (a4 : Int) (a5 : Int) (a6 : Int) (a7 : List UInt8) (a8T : Nat) (a8C : Cp) (a8 : List Row) (a9 : Int) (a10 : Int) (a11 : List UInt8) (a12T : Nat) (a12C : Cp) (a12 : List Row) (a13T : Nat) (a13C : Cp) (a13 : List Row) (a14T : Nat) (a14C : Cp) (a14 : List Row) (a15T : Nat) (a15C : Cp) (a15 : List Row) (a16T : Nat) (a16C : Cp) (a16 : List Row) : evBody ⟨L, F, nt, X⟩ (lookV V 142) n Try.f142 (sig F 142).res [AV.agg [AV.int IntKind.u8 a0, AV.str a1, AV.str a2, AV.int IntKind.u8 a3, AV.int IntKind.u8 a4, AV.int IntKind.u8 a5, AV.int IntKind.i64 a6, AV.str a7, AV.ps a8T 26 a8C a8, AV.int IntKind.u8 a9, AV.int IntKind.i64 a10, AV.str a11, AV.ps a12T 26 a12C a12, AV.ps a13T 58 a13C a13, AV.ps a14T 58 a14C a14, AV.ps a15T 58 a15C a15, AV.ps a16T 9 a16C a16]] [] = f142 nt X n a1 a5 a6 a7 a8T a8C a8 a9 a10 a11 a12T a12C a12 := by kernel_rfl
def sp142 : Sp
  | [.agg [.int .u8 op, .str nm, .str sec, .int .u8 ab, .int .u8 wh, .int .u8 k, .int .i64 n, .str s, .ps t 26 c l, .int .u8 k2, .int .i64 n2, .str s2, .ps t2 26 c2 l2, .ps t3 58 c3 l3, .ps t4 58 c4 l4, .ps t5 58 c5 l5, .ps t6 9 c6 l6]], [] => bif gS ab l l2 l6 then some ([.agg [.int .u8 0, .str nm, .str [], .int .u8 0, .int .u8 0, .int .u8 k, .int .i64 n, .str s, .ps t 26 c l, .int .u8 k2, .int .i64 n2, .str s2, .ps t2 26 c2 l2, .ps 0 58 ⟨true, true⟩ [], .ps 0 58 ⟨true, true⟩ [], .ps 0 58 ⟨true, true⟩ [], .ps 0 9 ⟨true, true⟩ []], .bool (mayName nm && mayEx (.mk k n s (exsOf l)) && mayEx (.mk k2 n2 s2 (exsOf l2)))], []) else none
  | _, _ => none
theorem told142 (nt : Nat) : Facts nt 142 sp142 := fun args h rs h' hv => by
  unfold sp142 at hv
  split at hv
  · rename_i op nm sec ab wh k n s t c l k2 n2 s2 t2 c2 l2 t3 c3 l3 t4 c4 l4 t5 c5 l5 t6 c6 l6
    cases hb : gS ab l l2 l6
    · rw [hb] at hv; cases hv
    · rw [hb] at hv
      obtain ⟨g1, g2, g3, g4⟩ := gS_iff hb
      refine fact_tab Try.func142 (TS nt) 1 ?_
      rw [f142_q, ← hv]
      simp only [f142, ts38, ts21 g1, ts21 g2, ts62 g1, ts62 g2, ts106, ts145, ts140 g4, Option.bind_some, toB_bool, toCells_bool, nth_zero, cond_true]
      generalize mayName nm = b1
      generalize mayEx (.mk k n s (exsOf l)) = b2
      generalize orNoEx (.mk k n s (exsOf l)) = b3
      generalize mayEx (.mk k2 n2 s2 (exsOf l2)) = b4
      generalize orNoEx (.mk k2 n2 s2 (exsOf l2)) = b5
      generalize noEx (.mk k2 n2 s2 (exsOf l2)) = b6
      generalize oneAb ab = b7
      generalize mayAb ab = b8
      generalize decide (ab = 1) = b9
      generalize decide (ab = 32) = b10
      first
        | rfl
        | (cases b1 <;> first | rfl | (cases b3 <;> rfl))
        | (cases b1 <;> cases b2 <;> cases b4 <;> rfl)
        | (cases b2 <;> cases b8 <;> rfl)
        | (cases b3 <;> cases b5 <;> rfl)
        | (cases b1 <;> cases b2 <;> cases b5 <;> cases b6 <;> cases b7 <;> cases b9 <;> cases b10 <;> rfl)
  · cases hv
def f143 (nt : Nat) (X : Call') (n : Nat) (a5 : Int) (a6 : Int) (a7 : List UInt8) (a8T : Nat) (a8C : Cp) (a8 : List Row) (a9 : Int) (a10 : Int) (a11 : List UInt8) (a12T : Nat) (a12C : Cp) (a12 : List Row) (a13T : Nat) (a13C : Cp) (a13 : List Row) (a14T : Nat) (a14C : Cp) (a14 : List Row) : Option (List AV × List AObj) :=
  ((X 62 [AV.agg [AV.int IntKind.u8 a5, AV.int IntKind.i64 a6, AV.str a7, AV.ps a8T 26 a8C a8]] []).bind fun r33 => (bif AV.toB (nth AV.u (AV.toCells (nth AV.u (Prod.fst r33) 0)) 0) then ((X 62 [AV.agg [AV.int IntKind.u8 a9, AV.int IntKind.i64 a10, AV.str a11, AV.ps a12T 26 a12C a12]] []).bind fun r34 => some (([AV.agg [AV.int IntKind.u8 0, AV.str [], AV.str [], AV.int IntKind.u8 0, AV.int IntKind.u8 0, AV.int IntKind.u8 a5, AV.int IntKind.i64 a6, AV.str a7, AV.ps a8T 26 a8C a8, AV.int IntKind.u8 a9, AV.int IntKind.i64 a10, AV.str a11, AV.ps a12T 26 a12C a12, AV.ps a13T 58 a13C a13, AV.ps a14T 58 a14C a14, AV.ps 0 58 (Cp.mk true true) [], AV.ps 0 9 (Cp.mk true true) []], AV.bool (AV.toB (nth AV.u (AV.toCells (nth AV.u (Prod.fst r34) 0)) 0))], []))) else some (([AV.agg [AV.int IntKind.u8 0, AV.str [], AV.str [], AV.int IntKind.u8 0, AV.int IntKind.u8 0, AV.int IntKind.u8 a5, AV.int IntKind.i64 a6, AV.str a7, AV.ps a8T 26 a8C a8, AV.int IntKind.u8 a9, AV.int IntKind.i64 a10, AV.str a11, AV.ps a12T 26 a12C a12, AV.ps a13T 58 a13C a13, AV.ps a14T 58 a14C a14, AV.ps 0 58 (Cp.mk true true) [], AV.ps 0 9 (Cp.mk true true) []], AV.bool false], []))))
theorem f143_q (nt : Nat) (X : Call') (n : Nat) (a0 : Int) (a1 : List UInt8) (a2 : List UInt8) (a3 : Int) (a4 : Int) (a5 : Int) (a6 : Int) (a7 : List UInt8) (a8T : Nat) (a8C : Cp) (a8 : List Row) (a9 : Int) (a10 : Int) (a11 : List UInt8) (a12T : Nat) (a12C : Cp) (a12 : List Row) (a13T : Nat) (a13C : Cp) (a13 : List Row) (a14T : Nat) (a14C : Cp) (a14 : List Row) (a15T : Nat) (a15C : Cp) (a15 : List Row) (a16T : Nat) (a16C : Cp) (a16 : List Row) : evBody ⟨L, F, nt, X⟩ (lookV V 143) n Try.f143 (sig F 143).res [AV.agg [AV.int IntKind.u8 a0, AV.str a1, AV.str a2, AV.int IntKind.u8 a3, AV.int IntKind.u8 a4, AV.int IntKind.u8 a5, AV.int IntKind.i64 a6, AV.str a7, AV.ps a8T 26 a8C a8, AV.int IntKind.u8 a9, AV.int IntKind.i64 a10, AV.str a11, AV.ps a12T 26 a12C a12, AV.ps a13T 58 a13C a13, AV.ps a14T 58 a14C a14, AV.ps a15T 58 a15C a15, AV.ps a16T 9 a16C a16]] [] = f143 nt X n a5 a6 a7 a8T a8C a8 a9 a10 a11 a12T a12C a12 a13T a13C a13 a14T a14C a14 := by kernel_rfl
def sp143 : Sp
  | [.agg [.int .u8 op, .str nm, .str sec, .int .u8 ab, .int .u8 wh, .int .u8 k, .int .i64 n, .str s, .ps t 26 c l, .int .u8 k2, .int .i64 n2, .str s2, .ps t2 26 c2 l2, .ps t3 58 c3 l3, .ps t4 58 c4 l4, .ps t5 58 c5 l5, .ps t6 9 c6 l6]], [] => bif gS ab l l2 l6 then some ([.agg [.int .u8 0, .str [], .str [], .int .u8 0, .int .u8 0, .int .u8 k, .int .i64 n, .str s, .ps t 26 c l, .int .u8 k2, .int .i64 n2, .str s2, .ps t2 26 c2 l2, .ps t3 58 c3 l3, .ps t4 58 c4 l4, .ps 0 58 ⟨true, true⟩ [], .ps 0 9 ⟨true, true⟩ []], .bool (orNoEx (.mk k n s (exsOf l)) && orNoEx (.mk k2 n2 s2 (exsOf l2)))], []) else none
  | _, _ => none
theorem told143 (nt : Nat) : Facts nt 143 sp143 := fun args h rs h' hv => by
  unfold sp143 at hv
  split at hv
  · rename_i op nm sec ab wh k n s t c l k2 n2 s2 t2 c2 l2 t3 c3 l3 t4 c4 l4 t5 c5 l5 t6 c6 l6
    cases hb : gS ab l l2 l6
    · rw [hb] at hv; cases hv
    · rw [hb] at hv
      obtain ⟨g1, g2, g3, g4⟩ := gS_iff hb
      refine fact_tab Try.func143 (TS nt) 1 ?_
      rw [f143_q, ← hv]
      simp only [f143, ts38, ts21 g1, ts21 g2, ts62 g1, ts62 g2, ts106, ts145, ts140 g4, Option.bind_some, toB_bool, toCells_bool, nth_zero, cond_true]
      generalize mayName nm = b1
      generalize mayEx (.mk k n s (exsOf l)) = b2
      generalize orNoEx (.mk k n s (exsOf l)) = b3
      generalize mayEx (.mk k2 n2 s2 (exsOf l2)) = b4
      generalize orNoEx (.mk k2 n2 s2 (exsOf l2)) = b5
      generalize noEx (.mk k2 n2 s2 (exsOf l2)) = b6
      generalize oneAb ab = b7
      generalize mayAb ab = b8
      generalize decide (ab = 1) = b9
      generalize decide (ab = 32) = b10
      first
        | rfl
        | (cases b1 <;> first | rfl | (cases b3 <;> rfl))
        | (cases b1 <;> cases b2 <;> cases b4 <;> rfl)
        | (cases b2 <;> cases b8 <;> rfl)
        | (cases b3 <;> cases b5 <;> rfl)
        | (cases b1 <;> cases b2 <;> cases b5 <;> cases b6 <;> cases b7 <;> cases b9 <;> cases b10 <;> rfl)
  · cases hv
def f144 (nt : Nat) (X : Call') (n : Nat) (a3 : Int) (a5 : Int) (a6 : Int) (a7 : List UInt8) (a8T : Nat) (a8C : Cp) (a8 : List Row) (a13T : Nat) (a13C : Cp) (a13 : List Row) (a14T : Nat) (a14C : Cp) (a14 : List Row) : Option (List AV × List AObj) :=
  ((X 21 [AV.agg [AV.int IntKind.u8 a5, AV.int IntKind.i64 a6, AV.str a7, AV.ps a8T 26 a8C a8]] []).bind fun r33 => (bif AV.toB (nth AV.u (AV.toCells (nth AV.u (Prod.fst r33) 0)) 0) then ((X 145 [AV.int IntKind.u8 a3] []).bind fun r34 => some (([AV.agg [AV.int IntKind.u8 0, AV.str [], AV.str [], AV.int IntKind.u8 a3, AV.int IntKind.u8 0, AV.int IntKind.u8 a5, AV.int IntKind.i64 a6, AV.str a7, AV.ps a8T 26 a8C a8, AV.int IntKind.u8 0, AV.int IntKind.i64 0, AV.str [], AV.ps 0 26 (Cp.mk true true) [], AV.ps a13T 58 a13C a13, AV.ps a14T 58 a14C a14, AV.ps 0 58 (Cp.mk true true) [], AV.ps 0 9 (Cp.mk true true) []], AV.bool (AV.toB (nth AV.u (AV.toCells (nth AV.u (Prod.fst r34) 0)) 0))], []))) else some (([AV.agg [AV.int IntKind.u8 0, AV.str [], AV.str [], AV.int IntKind.u8 a3, AV.int IntKind.u8 0, AV.int IntKind.u8 a5, AV.int IntKind.i64 a6, AV.str a7, AV.ps a8T 26 a8C a8, AV.int IntKind.u8 0, AV.int IntKind.i64 0, AV.str [], AV.ps 0 26 (Cp.mk true true) [], AV.ps a13T 58 a13C a13, AV.ps a14T 58 a14C a14, AV.ps 0 58 (Cp.mk true true) [], AV.ps 0 9 (Cp.mk true true) []], AV.bool false], []))))
theorem f144_q (nt : Nat) (X : Call') (n : Nat) (a0 : Int) (a1 : List UInt8) (a2 : List UInt8) (a3 : Int) (a4 : Int) (a5 : Int) (a6 : Int) (a7 : List UInt8) (a8T : Nat) (a8C : Cp) (a8 : List Row) (a9 : Int) (a10 : Int) (a11 : List UInt8) (a12T : Nat) (a12C : Cp) (a12 : List Row) (a13T : Nat) (a13C : Cp) (a13 : List Row) (a14T : Nat) (a14C : Cp) (a14 : List Row) (a15T : Nat) (a15C : Cp) (a15 : List Row) (a16T : Nat) (a16C : Cp) (a16 : List Row) : evBody ⟨L, F, nt, X⟩ (lookV V 144) n Try.f144 (sig F 144).res [AV.agg [AV.int IntKind.u8 a0, AV.str a1, AV.str a2, AV.int IntKind.u8 a3, AV.int IntKind.u8 a4, AV.int IntKind.u8 a5, AV.int IntKind.i64 a6, AV.str a7, AV.ps a8T 26 a8C a8, AV.int IntKind.u8 a9, AV.int IntKind.i64 a10, AV.str a11, AV.ps a12T 26 a12C a12, AV.ps a13T 58 a13C a13, AV.ps a14T 58 a14C a14, AV.ps a15T 58 a15C a15, AV.ps a16T 9 a16C a16]] [] = f144 nt X n a3 a5 a6 a7 a8T a8C a8 a13T a13C a13 a14T a14C a14 := by kernel_rfl
def sp144 : Sp
  | [.agg [.int .u8 op, .str nm, .str sec, .int .u8 ab, .int .u8 wh, .int .u8 k, .int .i64 n, .str s, .ps t 26 c l, .int .u8 k2, .int .i64 n2, .str s2, .ps t2 26 c2 l2, .ps t3 58 c3 l3, .ps t4 58 c4 l4, .ps t5 58 c5 l5, .ps t6 9 c6 l6]], [] => bif gS ab l l2 l6 then some ([.agg [.int .u8 0, .str [], .str [], .int .u8 ab, .int .u8 0, .int .u8 k, .int .i64 n, .str s, .ps t 26 c l, .int .u8 0, .int .i64 0, .str [], .ps 0 26 ⟨true, true⟩ [], .ps t3 58 c3 l3, .ps t4 58 c4 l4, .ps 0 58 ⟨true, true⟩ [], .ps 0 9 ⟨true, true⟩ []], .bool (mayEx (.mk k n s (exsOf l)) && mayAb ab)], []) else none
  | _, _ => none
theorem told144 (nt : Nat) : Facts nt 144 sp144 := fun args h rs h' hv => by
  unfold sp144 at hv
  split at hv
  · rename_i op nm sec ab wh k n s t c l k2 n2 s2 t2 c2 l2 t3 c3 l3 t4 c4 l4 t5 c5 l5 t6 c6 l6
    cases hb : gS ab l l2 l6
    · rw [hb] at hv; cases hv
    · rw [hb] at hv
      obtain ⟨g1, g2, g3, g4⟩ := gS_iff hb
      refine fact_tab Try.func144 (TS nt) 1 ?_
      rw [f144_q, ← hv]
      simp only [f144, ts38, ts21 g1, ts21 g2, ts62 g1, ts62 g2, ts106, ts145, ts140 g4, Option.bind_some, toB_bool, toCells_bool, nth_zero, cond_true]
      generalize mayName nm = b1
      generalize mayEx (.mk k n s (exsOf l)) = b2
      generalize orNoEx (.mk k n s (exsOf l)) = b3
      generalize mayEx (.mk k2 n2 s2 (exsOf l2)) = b4
      generalize orNoEx (.mk k2 n2 s2 (exsOf l2)) = b5
      generalize noEx (.mk k2 n2 s2 (exsOf l2)) = b6
      generalize oneAb ab = b7
      generalize mayAb ab = b8
      generalize decide (ab = 1) = b9
      generalize decide (ab = 32) = b10
      first
        | rfl
        | (cases b1 <;> first | rfl | (cases b3 <;> rfl))
        | (cases b1 <;> cases b2 <;> cases b4 <;> rfl)
        | (cases b2 <;> cases b8 <;> rfl)
        | (cases b3 <;> cases b5 <;> rfl)
        | (cases b1 <;> cases b2 <;> cases b5 <;> cases b6 <;> cases b7 <;> cases b9 <;> cases b10 <;> rfl)
  · cases hv
def f146 (nt : Nat) (X : Call') (n : Nat) (a5 : Int) (a6 : Int) (a7 : List UInt8) (a8T : Nat) (a8C : Cp) (a8 : List Row) : Option (List AV × List AObj) :=
  ((X 62 [AV.agg [AV.int IntKind.u8 a5, AV.int IntKind.i64 a6, AV.str a7, AV.ps a8T 26 a8C a8]] []).bind fun r33 => some (([AV.agg [AV.int IntKind.u8 0, AV.str [], AV.str [], AV.int IntKind.u8 0, AV.int IntKind.u8 0, AV.int IntKind.u8 a5, AV.int IntKind.i64 a6, AV.str a7, AV.ps a8T 26 a8C a8, AV.int IntKind.u8 0, AV.int IntKind.i64 0, AV.str [], AV.ps 0 26 (Cp.mk true true) [], AV.ps 0 58 (Cp.mk true true) [], AV.ps 0 58 (Cp.mk true true) [], AV.ps 0 58 (Cp.mk true true) [], AV.ps 0 9 (Cp.mk true true) []], AV.bool (AV.toB (nth AV.u (AV.toCells (nth AV.u (Prod.fst r33) 0)) 0))], [])))
theorem f146_q (nt : Nat) (X : Call') (n : Nat) (a0 : Int) (a1 : List UInt8) (a2 : List UInt8) (a3 : Int) (a4 : Int) (a5 : Int) (a6 : Int) (a7 : List UInt8) (a8T : Nat) (a8C : Cp) (a8 : List Row) (a9 : Int) (a10 : Int) (a11 : List UInt8) (a12T : Nat) (a12C : Cp) (a12 : List Row) (a13T : Nat) (a13C : Cp) (a13 : List Row) (a14T : Nat) (a14C : Cp) (a14 : List Row) (a15T : Nat) (a15C : Cp) (a15 : List Row) (a16T : Nat) (a16C : Cp) (a16 : List Row) : evBody ⟨L, F, nt, X⟩ (lookV V 146) n Try.f146 (sig F 146).res [AV.agg [AV.int IntKind.u8 a0, AV.str a1, AV.str a2, AV.int IntKind.u8 a3, AV.int IntKind.u8 a4, AV.int IntKind.u8 a5, AV.int IntKind.i64 a6, AV.str a7, AV.ps a8T 26 a8C a8, AV.int IntKind.u8 a9, AV.int IntKind.i64 a10, AV.str a11, AV.ps a12T 26 a12C a12, AV.ps a13T 58 a13C a13, AV.ps a14T 58 a14C a14, AV.ps a15T 58 a15C a15, AV.ps a16T 9 a16C a16]] [] = f146 nt X n a5 a6 a7 a8T a8C a8 := by kernel_rfl
def sp146 : Sp
  | [.agg [.int .u8 op, .str nm, .str sec, .int .u8 ab, .int .u8 wh, .int .u8 k, .int .i64 n, .str s, .ps t 26 c l, .int .u8 k2, .int .i64 n2, .str s2, .ps t2 26 c2 l2, .ps t3 58 c3 l3, .ps t4 58 c4 l4, .ps t5 58 c5 l5, .ps t6 9 c6 l6]], [] => bif gS ab l l2 l6 then some ([.agg [.int .u8 0, .str [], .str [], .int .u8 0, .int .u8 0, .int .u8 k, .int .i64 n, .str s, .ps t 26 c l, .int .u8 0, .int .i64 0, .str [], .ps 0 26 ⟨true, true⟩ [], .ps 0 58 ⟨true, true⟩ [], .ps 0 58 ⟨true, true⟩ [], .ps 0 58 ⟨true, true⟩ [], .ps 0 9 ⟨true, true⟩ []], .bool (orNoEx (.mk k n s (exsOf l)))], []) else none
  | _, _ => none
theorem told146 (nt : Nat) : Facts nt 146 sp146 := fun args h rs h' hv => by
  unfold sp146 at hv
  split at hv
  · rename_i op nm sec ab wh k n s t c l k2 n2 s2 t2 c2 l2 t3 c3 l3 t4 c4 l4 t5 c5 l5 t6 c6 l6
    cases hb : gS ab l l2 l6
    · rw [hb] at hv; cases hv
    · rw [hb] at hv
      obtain ⟨g1, g2, g3, g4⟩ := gS_iff hb
      refine fact_tab Try.func146 (TS nt) 1 ?_
      rw [f146_q, ← hv]
      simp only [f146, ts38, ts21 g1, ts21 g2, ts62 g1, ts62 g2, ts106, ts145, ts140 g4, Option.bind_some, toB_bool, toCells_bool, nth_zero, cond_true]
  · cases hv
def f147 (nt : Nat) (X : Call') (n : Nat)  : Option (List AV × List AObj) :=
  some (([AV.agg [AV.int IntKind.u8 0, AV.str [], AV.str [], AV.int IntKind.u8 0, AV.int IntKind.u8 0, AV.int IntKind.u8 0, AV.int IntKind.i64 0, AV.str [], AV.ps 0 26 (Cp.mk true true) [], AV.int IntKind.u8 0, AV.int IntKind.i64 0, AV.str [], AV.ps 0 26 (Cp.mk true true) [], AV.ps 0 58 (Cp.mk true true) [], AV.ps 0 58 (Cp.mk true true) [], AV.ps 0 58 (Cp.mk true true) [], AV.ps 0 9 (Cp.mk true true) []], AV.bool true], []))
theorem f147_q (nt : Nat) (X : Call') (n : Nat) (a0 : Int) (a1 : List UInt8) (a2 : List UInt8) (a3 : Int) (a4 : Int) (a5 : Int) (a6 : Int) (a7 : List UInt8) (a8T : Nat) (a8C : Cp) (a8 : List Row) (a9 : Int) (a10 : Int) (a11 : List UInt8) (a12T : Nat) (a12C : Cp) (a12 : List Row) (a13T : Nat) (a13C : Cp) (a13 : List Row) (a14T : Nat) (a14C : Cp) (a14 : List Row) (a15T : Nat) (a15C : Cp) (a15 : List Row) (a16T : Nat) (a16C : Cp) (a16 : List Row) : evBody ⟨L, F, nt, X⟩ (lookV V 147) n Try.f147 (sig F 147).res [AV.agg [AV.int IntKind.u8 a0, AV.str a1, AV.str a2, AV.int IntKind.u8 a3, AV.int IntKind.u8 a4, AV.int IntKind.u8 a5, AV.int IntKind.i64 a6, AV.str a7, AV.ps a8T 26 a8C a8, AV.int IntKind.u8 a9, AV.int IntKind.i64 a10, AV.str a11, AV.ps a12T 26 a12C a12, AV.ps a13T 58 a13C a13, AV.ps a14T 58 a14C a14, AV.ps a15T 58 a15C a15, AV.ps a16T 9 a16C a16]] [] = f147 nt X n  := by kernel_rfl
def sp147 : Sp
  | [.agg [.int .u8 op, .str nm, .str sec, .int .u8 ab, .int .u8 wh, .int .u8 k, .int .i64 n, .str s, .ps t 26 c l, .int .u8 k2, .int .i64 n2, .str s2, .ps t2 26 c2 l2, .ps t3 58 c3 l3, .ps t4 58 c4 l4, .ps t5 58 c5 l5, .ps t6 9 c6 l6]], [] => bif gS ab l l2 l6 then some ([.agg [.int .u8 0, .str [], .str [], .int .u8 0, .int .u8 0, .int .u8 0, .int .i64 0, .str [], .ps 0 26 ⟨true, true⟩ [], .int .u8 0, .int .i64 0, .str [], .ps 0 26 ⟨true, true⟩ [], .ps 0 58 ⟨true, true⟩ [], .ps 0 58 ⟨true, true⟩ [], .ps 0 58 ⟨true, true⟩ [], .ps 0 9 ⟨true, true⟩ []], .bool (true)], []) else none
  | _, _ => none
theorem told147 (nt : Nat) : Facts nt 147 sp147 := fun args h rs h' hv => by
  unfold sp147 at hv
  split at hv
  · rename_i op nm sec ab wh k n s t c l k2 n2 s2 t2 c2 l2 t3 c3 l3 t4 c4 l4 t5 c5 l5 t6 c6 l6
    cases hb : gS ab l l2 l6
    · rw [hb] at hv; cases hv
    · rw [hb] at hv
      obtain ⟨g1, g2, g3, g4⟩ := gS_iff hb
      refine fact_tab Try.func147 (TS nt) 1 ?_
      rw [f147_q, ← hv]
      simp only [f147, ts38, ts21 g1, ts21 g2, ts62 g1, ts62 g2, ts106, ts145, ts140 g4, Option.bind_some, toB_bool, toCells_bool, nth_zero, cond_true]
  · cases hv
def f148 (nt : Nat) (X : Call') (n : Nat) (a1 : List UInt8) (a5 : Int) (a6 : Int) (a7 : List UInt8) (a8T : Nat) (a8C : Cp) (a8 : List Row) : Option (List AV × List AObj) :=
  ((X 38 [AV.str a1] []).bind fun r33 => (bif AV.toB (nth AV.u (AV.toCells (nth AV.u (Prod.fst r33) 0)) 0) then ((X 21 [AV.agg [AV.int IntKind.u8 a5, AV.int IntKind.i64 a6, AV.str a7, AV.ps a8T 26 a8C a8]] []).bind fun r34 => some (([AV.agg [AV.int IntKind.u8 0, AV.str a1, AV.str [], AV.int IntKind.u8 0, AV.int IntKind.u8 0, AV.int IntKind.u8 a5, AV.int IntKind.i64 a6, AV.str a7, AV.ps a8T 26 a8C a8, AV.int IntKind.u8 0, AV.int IntKind.i64 0, AV.str [], AV.ps 0 26 (Cp.mk true true) [], AV.ps 0 58 (Cp.mk true true) [], AV.ps 0 58 (Cp.mk true true) [], AV.ps 0 58 (Cp.mk true true) [], AV.ps 0 9 (Cp.mk true true) []], AV.bool (AV.toB (nth AV.u (AV.toCells (nth AV.u (Prod.fst r34) 0)) 0))], []))) else some (([AV.agg [AV.int IntKind.u8 0, AV.str a1, AV.str [], AV.int IntKind.u8 0, AV.int IntKind.u8 0, AV.int IntKind.u8 a5, AV.int IntKind.i64 a6, AV.str a7, AV.ps a8T 26 a8C a8, AV.int IntKind.u8 0, AV.int IntKind.i64 0, AV.str [], AV.ps 0 26 (Cp.mk true true) [], AV.ps 0 58 (Cp.mk true true) [], AV.ps 0 58 (Cp.mk true true) [], AV.ps 0 58 (Cp.mk true true) [], AV.ps 0 9 (Cp.mk true true) []], AV.bool false], []))))
theorem f148_q (nt : Nat) (X : Call') (n : Nat) (a0 : Int) (a1 : List UInt8) (a2 : List UInt8) (a3 : Int) (a4 : Int) (a5 : Int) (a6 : Int) (a7 : List UInt8) (a8T : Nat) (a8C : Cp) (a8 : List Row) (a9 : Int) (a10 : Int) (a11 : List UInt8) (a12T : Nat) (a12C : Cp) (a12 : List Row) (a13T : Nat) (a13C : Cp) (a13 : List Row) (a14T : Nat) (a14C : Cp) (a14 : List Row) (a15T : Nat) (a15C : Cp) (a15 : List Row) (a16T : Nat) (a16C : Cp) (a16 : List Row) : evBody ⟨L, F, nt, X⟩ (lookV V 148) n Try.f148 (sig F 148).res [AV.agg [AV.int IntKind.u8 a0, AV.str a1, AV.str a2, AV.int IntKind.u8 a3, AV.int IntKind.u8 a4, AV.int IntKind.u8 a5, AV.int IntKind.i64 a6, AV.str a7, AV.ps a8T 26 a8C a8, AV.int IntKind.u8 a9, AV.int IntKind.i64 a10, AV.str a11, AV.ps a12T 26 a12C a12, AV.ps a13T 58 a13C a13, AV.ps a14T 58 a14C a14, AV.ps a15T 58 a15C a15, AV.ps a16T 9 a16C a16]] [] = f148 nt X n a1 a5 a6 a7 a8T a8C a8 := by kernel_rfl
def sp148 : Sp
  | [.agg [.int .u8 op, .str nm, .str sec, .int .u8 ab, .int .u8 wh, .int .u8 k, .int .i64 n, .str s, .ps t 26 c l, .int .u8 k2, .int .i64 n2, .str s2, .ps t2 26 c2 l2, .ps t3 58 c3 l3, .ps t4 58 c4 l4, .ps t5 58 c5 l5, .ps t6 9 c6 l6]], [] => bif gS ab l l2 l6 then some ([.agg [.int .u8 0, .str nm, .str [], .int .u8 0, .int .u8 0, .int .u8 k, .int .i64 n, .str s, .ps t 26 c l, .int .u8 0, .int .i64 0, .str [], .ps 0 26 ⟨true, true⟩ [], .ps 0 58 ⟨true, true⟩ [], .ps 0 58 ⟨true, true⟩ [], .ps 0 58 ⟨true, true⟩ [], .ps 0 9 ⟨true, true⟩ []], .bool (mayName nm && mayEx (.mk k n s (exsOf l)))], []) else none
  | _, _ => none
theorem told148 (nt : Nat) : Facts nt 148 sp148 := fun args h rs h' hv => by
  unfold sp148 at hv
  split at hv
  · rename_i op nm sec ab wh k n s t c l k2 n2 s2 t2 c2 l2 t3 c3 l3 t4 c4 l4 t5 c5 l5 t6 c6 l6
    cases hb : gS ab l l2 l6
    · rw [hb] at hv; cases hv
    · rw [hb] at hv
      obtain ⟨g1, g2, g3, g4⟩ := gS_iff hb
      refine fact_tab Try.func148 (TS nt) 1 ?_
      rw [f148_q, ← hv]
      simp only [f148, ts38, ts21 g1, ts21 g2, ts62 g1, ts62 g2, ts106, ts145, ts140 g4, Option.bind_some, toB_bool, toCells_bool, nth_zero, cond_true]
      generalize mayName nm = b1
      generalize mayEx (.mk k n s (exsOf l)) = b2
      generalize orNoEx (.mk k n s (exsOf l)) = b3
      generalize mayEx (.mk k2 n2 s2 (exsOf l2)) = b4
      generalize orNoEx (.mk k2 n2 s2 (exsOf l2)) = b5
      generalize noEx (.mk k2 n2 s2 (exsOf l2)) = b6
      generalize oneAb ab = b7
      generalize mayAb ab = b8
      generalize decide (ab = 1) = b9
      generalize decide (ab = 32) = b10
      first
        | rfl
        | (cases b1 <;> first | rfl | (cases b3 <;> rfl))
        | (cases b1 <;> cases b2 <;> cases b4 <;> rfl)
        | (cases b2 <;> cases b8 <;> rfl)
        | (cases b3 <;> cases b5 <;> rfl)
        | (cases b1 <;> cases b2 <;> cases b5 <;> cases b6 <;> cases b7 <;> cases b9 <;> cases b10 <;> rfl)
  · cases hv
end Go.Ev.T
