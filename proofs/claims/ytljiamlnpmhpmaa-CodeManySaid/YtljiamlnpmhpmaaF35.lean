/- Functions 28, 78, 30, 32, 35 (Check, check, May, Size, Uses of code), decompiled, and what they come to. -/
import Derived.Test.YtljiamlnpmhpmaaF74c
import Derived.Test.YtljiamlnpmhpmaaF74s
import Derived.Test.YtljiamlnpmhpmaaF74u
set_option linter.unusedVariables false
set_option linter.unusedSimpArgs false
noncomputable section
namespace Go.Ev
/-- how much a code is -/
def sizeC (ss : List Sm) : Int := bif mayC ss then ((allS ss).length : Int) else 0
/-- what a code uses -/
def usesC (ss : List Sm) : Int × Bool × Bool := bif mayC ss then (allS ss).foldl (fun u s => us s u) (0, false, false) else (0, false, false)
theorem check_ok' (ss : List Sm) {i : Decidable ((check ss).2 = 0)} : @decide _ i = mayC ss := by rw [← check_ok]; congr
theorem flL_len (ss : List Sm) : (flL ss 0).length = (allS ss).length := by simp [allS]
theorem size_wk {ss : List Sm} (h : mayC ss = true) : (wkL onF ss 0 0 ()).2.1 = ((allS ss).length : Int) := by
  rw [wkL_fl]
  have h1 := ((mayC_iff ss).1 h).2
  have := (wkF_on (σ := Unit) (fun _ _ _ _ => ()) (flL ss 0) 0 () (by omega) (by rw [flL_len]; omega)).2
  rw [flL_len, Int.zero_add] at this
  exact this
theorem uses_wk {ss : List Sm} (h : mayC ss = true) (u : Int × Bool × Bool) : (wkL usF ss 0 0 u).2.2 = (allS ss).foldl (fun u s => us s u) u := by
  rw [wkL_fl]
  have h1 := ((mayC_iff ss).1 h).2
  exact wkF_fold us (flL ss 0) 0 u (by omega) (by rw [flL_len]; omega)
end Go.Ev
namespace Go.Ev.T
open Go Go.Ev Go.Proofs
def gC (l : List Row) : Bool := Nat.blt (szR l) big && wfL (smsOf l)
def f28 (nt : Nat) (X : Call') (n : Nat) (aT : Nat) (aC : Cp) (a : List Row) : Option (List AV × List AObj) :=
  ((X 74 [AV.ps aT 58 aC a, AV.int IntKind.i64 0, AV.ptr 0 0 0 0, AV.func (some 75) [AV.ptr 1 0 0 0, AV.ptr 2 0 0 0]] [AObj.box 3 [AV.int IntKind.i64 0], AObj.box 3 [AV.int IntKind.i64 0], AObj.box 35 [AV.int IntKind.i64 0]]).bind fun r7 => some (([AV.int IntKind.i64 (AV.toI (nth AV.u (AObj.toRow (nth AObj.dead (Prod.snd r7) 1)) 0)), AV.int IntKind.i64 (AV.toI (nth AV.u (AObj.toRow (nth AObj.dead (Prod.snd r7) 2)) 0))], [])))
theorem f28_q (nt : Nat) (X : Call') (n : Nat) (aT : Nat) (aC : Cp) (a : List Row) : evBody ⟨L, F, nt, X⟩ (lookV V 28) n Try.f28 (sig F 28).res [AV.ps aT 58 aC a] [] = f28 nt X n aT aC a := by kernel_rfl

def f78 (nt : Nat) (X : Call') (n : Nat) (aT : Nat) (aC : Cp) (a : List Row) : Option (List AV × List AObj) :=
  ((X 28 [AV.ps aT 58 aC a] []).bind fun r7 => some (([AV.int IntKind.i64 (AV.toI (nth AV.u (AV.toCells (nth AV.u (Prod.fst r7) 1)) 0))], [])))
theorem f78_q (nt : Nat) (X : Call') (n : Nat) (aT : Nat) (aC : Cp) (a : List Row) : evBody ⟨L, F, nt, X⟩ (lookV V 78) n Try.f78 (sig F 78).res [AV.ps aT 58 aC a] [] = f78 nt X n aT aC a := by kernel_rfl

def f30 (nt : Nat) (X : Call') (n : Nat) (aT : Nat) (aC : Cp) (a : List Row) : Option (List AV × List AObj) :=
  ((X 78 [AV.ps aT 58 aC a] []).bind fun r7 => some (([AV.bool (decide (AV.toI (nth AV.u (AV.toCells (nth AV.u (Prod.fst r7) 0)) 0) = 0))], [])))
theorem f30_q (nt : Nat) (X : Call') (n : Nat) (aT : Nat) (aC : Cp) (a : List Row) : evBody ⟨L, F, nt, X⟩ (lookV V 30) n Try.f30 (sig F 30).res [AV.ps aT 58 aC a] [] = f30 nt X n aT aC a := by kernel_rfl

def f32 (nt : Nat) (X : Call') (n : Nat) (aT : Nat) (aC : Cp) (a : List Row) : Option (List AV × List AObj) :=
  ((X 30 [AV.ps aT 58 aC a] []).bind fun r7 => (bif !AV.toB (nth AV.u (AV.toCells (nth AV.u (Prod.fst r7) 0)) 0) then some (([AV.int IntKind.i64 0], [])) else ((X 74 [AV.ps aT 58 aC a, AV.int IntKind.i64 0, AV.ptr 0 0 0 0, AV.func (some 79) []] [AObj.box 3 [AV.int IntKind.i64 0]]).bind fun r8 => some (([AV.int IntKind.i64 (AV.toI (nth AV.u (AObj.toRow (nth AObj.dead (Prod.snd r8) 0)) 0))], [])))))
theorem f32_q (nt : Nat) (X : Call') (n : Nat) (aT : Nat) (aC : Cp) (a : List Row) : evBody ⟨L, F, nt, X⟩ (lookV V 32) n Try.f32 (sig F 32).res [AV.ps aT 58 aC a] [] = f32 nt X n aT aC a := by kernel_rfl

def f35 (nt : Nat) (X : Call') (n : Nat) (aT : Nat) (aC : Cp) (a : List Row) : Option (List AV × List AObj) :=
  ((X 78 [AV.ps aT 58 aC a] []).bind fun r7 => (bif !decide (AV.toI (nth AV.u (AV.toCells (nth AV.u (Prod.fst r7) 0)) 0) = 0) then some (([AV.agg [AV.int IntKind.u8 0, AV.bool false, AV.bool false], AV.int IntKind.i64 (AV.toI (nth AV.u (AV.toCells (nth AV.u (Prod.fst r7) 0)) 0))], [])) else ((X 74 [AV.ps aT 58 aC a, AV.int IntKind.i64 0, AV.ptr 0 0 0 0, AV.func (some 81) [AV.ptr 1 0 0 0]] [AObj.box 3 [AV.int IntKind.i64 0], AObj.box 51 [AV.int IntKind.u8 0, AV.bool false, AV.bool false]]).bind fun r8 => some (([AV.agg [AV.int IntKind.u8 (AV.toI (nth AV.u (AObj.toRow (nth AObj.dead (Prod.snd r8) 1)) 0)), AV.bool (AV.toB (nth AV.u (AObj.toRow (nth AObj.dead (Prod.snd r8) 1)) 1)), AV.bool (AV.toB (nth AV.u (AObj.toRow (nth AObj.dead (Prod.snd r8) 1)) 2))], AV.int IntKind.i64 0], [])))))
theorem f35_q (nt : Nat) (X : Call') (n : Nat) (aT : Nat) (aC : Cp) (a : List Row) : evBody ⟨L, F, nt, X⟩ (lookV V 35) n Try.f35 (sig F 35).res [AV.ps aT 58 aC a] [] = f35 nt X n aT aC a := by kernel_rfl

def sp28 : Sp
  | [.ps _ 58 _ l], [] => bif gC l then some ([.int .i64 (check (smsOf l)).1, .int .i64 (check (smsOf l)).2], []) else none
  | _, _ => none
theorem told28 (nt : Nat) : Facts nt 28 sp28 := fun args h rs h' hv => by
  unfold sp28 at hv
  split at hv
  · rename_i T C l
    cases hb : gC l
    · rw [hb] at hv; cases hv
    · rw [hb] at hv
      refine fact_tab Try.func28 [⟨74, sp74c big, told74c nt big (Nat.le_refl _)⟩] 1 ?_
      rw [f28_q, ← hv]
      have e : tab [⟨74, sp74c big, told74c nt big (Nat.le_refl _)⟩] 74 [.ps T 58 C l, .int .i64 0, .ptr 0 0 0 0, .func (some 75) [.ptr 1 0 0 0, .ptr 2 0 0 0]] [.box 3 [.int .i64 0], .box 3 [.int .i64 0], .box 35 [.int .i64 0]] = some ([.bool (wkL chkF (smsOf l) 0 0 (0, 0)).1], [.box 3 [.int .i64 (wkL chkF (smsOf l) 0 0 (0, 0)).2.1], .box 3 [.int .i64 (check (smsOf l)).1], .box 35 [.int .i64 (check (smsOf l)).2]]) := by
        rw [tab_hit, ← check_wk]; unfold gC at hb; simp only [sp74c, hb, cond_true]
      simp only [f28, e, Option.bind_some, toI_int, toRow_box, nth_zero, nth_1, nth_2, cond_true]
  · cases hv
def sp78 : Sp
  | [.ps _ 58 _ l], [] => bif gC l then some ([.int .i64 (check (smsOf l)).2], []) else none
  | _, _ => none
theorem told78 (nt : Nat) : Facts nt 78 sp78 := fun args h rs h' hv => by
  unfold sp78 at hv
  split at hv
  · rename_i T C l
    cases hb : gC l
    · rw [hb] at hv; cases hv
    · rw [hb] at hv
      refine fact_tab Try.func78 [⟨28, sp28, told28 nt⟩] 1 ?_
      rw [f78_q, ← hv]
      have e : tab [⟨28, sp28, told28 nt⟩] 28 [.ps T 58 C l] [] = some ([.int .i64 (check (smsOf l)).1, .int .i64 (check (smsOf l)).2], []) := by
        rw [tab_hit]; simp only [sp28, hb, cond_true]
      simp only [f78, e, Option.bind_some, toI_int, toCells_int, nth_zero, nth_1, nth_2, cond_true]
  · cases hv
def sp30 : Sp
  | [.ps _ 58 _ l], [] => bif gC l then some ([.bool (mayC (smsOf l))], []) else none
  | _, _ => none
theorem told30 (nt : Nat) : Facts nt 30 sp30 := fun args h rs h' hv => by
  unfold sp30 at hv
  split at hv
  · rename_i T C l
    cases hb : gC l
    · rw [hb] at hv; cases hv
    · rw [hb] at hv
      refine fact_tab Try.func30 [⟨78, sp78, told78 nt⟩] 1 ?_
      rw [f30_q, ← hv]
      have e : tab [⟨78, sp78, told78 nt⟩] 78 [.ps T 58 C l] [] = some ([.int .i64 (check (smsOf l)).2], []) := by
        rw [tab_hit]; simp only [sp78, hb, cond_true]
      unfold f30
      rw [e]
      show some ([AV.bool (decide ((check (smsOf l)).2 = 0))], []) = _
      rw [check_ok]; rfl
  · cases hv
def sp32 : Sp
  | [.ps _ 58 _ l], [] => bif gC l then some ([.int .i64 (sizeC (smsOf l))], []) else none
  | _, _ => none
theorem told32 (nt : Nat) : Facts nt 32 sp32 := fun args h rs h' hv => by
  unfold sp32 at hv
  split at hv
  · rename_i T C l
    cases hb : gC l
    · rw [hb] at hv; cases hv
    · rw [hb] at hv
      refine fact_tab Try.func32 [⟨30, sp30, told30 nt⟩, ⟨74, sp74s big, told74s nt big (Nat.le_refl _)⟩] 1 ?_
      rw [f32_q, ← hv]
      have e : tab [⟨30, sp30, told30 nt⟩, ⟨74, sp74s big, told74s nt big (Nat.le_refl _)⟩] 30 [.ps T 58 C l] [] = some ([.bool (mayC (smsOf l))], []) := by
        rw [tab_hit]; simp only [sp30, hb, cond_true]
      have e2 : tab [⟨30, sp30, told30 nt⟩, ⟨74, sp74s big, told74s nt big (Nat.le_refl _)⟩] 74 [.ps T 58 C l, .int .i64 0, .ptr 0 0 0 0, .func (some 79) []] [.box 3 [.int .i64 0]] = some ([.bool (wkL onF (smsOf l) 0 0 ()).1], [.box 3 [.int .i64 (wkL onF (smsOf l) 0 0 ()).2.1]]) := by
        rw [tab_miss rfl, tab_hit]; unfold gC at hb; simp only [sp74s, hb, cond_true]
      cases hm : mayC (smsOf l)
      · simp only [f32, e, hm, sizeC, Option.bind_some, toB_bool, toCells_bool, nth_zero, Bool.not_false, cond_true, cond_false]
      · simp only [f32, e, e2, hm, sizeC, size_wk hm, Option.bind_some, toB_bool, toI_int, toRow_box, toCells_bool, nth_zero, Bool.not_true, cond_true, cond_false]
  · cases hv
def sp35 : Sp
  | [.ps _ 58 _ l], [] => bif gC l then some ([.agg [.int .u8 (usesC (smsOf l)).1, .bool (usesC (smsOf l)).2.1, .bool (usesC (smsOf l)).2.2], .int .i64 (check (smsOf l)).2], []) else none
  | _, _ => none
theorem told35 (nt : Nat) : Facts nt 35 sp35 := fun args h rs h' hv => by
  unfold sp35 at hv
  split at hv
  · rename_i T C l
    cases hb : gC l
    · rw [hb] at hv; cases hv
    · rw [hb] at hv
      refine fact_tab Try.func35 [⟨78, sp78, told78 nt⟩, ⟨74, sp74u big, told74u nt big (Nat.le_refl _)⟩] 1 ?_
      rw [f35_q, ← hv]
      have e : tab [⟨78, sp78, told78 nt⟩, ⟨74, sp74u big, told74u nt big (Nat.le_refl _)⟩] 78 [.ps T 58 C l] [] = some ([.int .i64 (check (smsOf l)).2], []) := by
        rw [tab_hit]; simp only [sp78, hb, cond_true]
      have e2 : tab [⟨78, sp78, told78 nt⟩, ⟨74, sp74u big, told74u nt big (Nat.le_refl _)⟩] 74 [.ps T 58 C l, .int .i64 0, .ptr 0 0 0 0, .func (some 81) [.ptr 1 0 0 0]] [.box 3 [.int .i64 0], .box 51 [.int .u8 0, .bool false, .bool false]] = some ([.bool (wkL usF (smsOf l) 0 0 (0, false, false)).1], [.box 3 [.int .i64 (wkL usF (smsOf l) 0 0 (0, false, false)).2.1], .box 51 [.int .u8 (wkL usF (smsOf l) 0 0 (0, false, false)).2.2.1, .bool (wkL usF (smsOf l) 0 0 (0, false, false)).2.2.2.1, .bool (wkL usF (smsOf l) 0 0 (0, false, false)).2.2.2.2]]) := by
        rw [tab_miss rfl, tab_hit]; unfold gC at hb; simp only [sp74u, hb, cond_true]
      have hc := check_ok (smsOf l)
      unfold f35
      rw [e]
      show (bif !decide ((check (smsOf l)).2 = 0) then some ([AV.agg [.int .u8 0, .bool false, .bool false], AV.int .i64 (check (smsOf l)).2], []) else (tab [⟨78, sp78, told78 nt⟩, ⟨74, sp74u big, told74u nt big (Nat.le_refl _)⟩] 74 [.ps T 58 C l, .int .i64 0, .ptr 0 0 0 0, .func (some 81) [.ptr 1 0 0 0]] [.box 3 [.int .i64 0], .box 51 [.int .u8 0, .bool false, .bool false]]).bind fun r8 => some ([AV.agg [.int .u8 (nth AV.u (AObj.toRow (nth AObj.dead r8.2 1)) 0).toI, .bool (nth AV.u (AObj.toRow (nth AObj.dead r8.2 1)) 1).toB, .bool (nth AV.u (AObj.toRow (nth AObj.dead r8.2 1)) 2).toB], AV.int .i64 0], [])) = _
      rw [e2, hc]
      cases hm : mayC (smsOf l)
      · simp only [usesC, hm, Bool.not_false, cond_true, cond_false]
      · rw [hm] at hc
        have hc' : (check (smsOf l)).2 = 0 := of_decide_eq_true hc
        simp only [Option.bind_some, toI_int, toB_bool, toRow_box, nth_zero, nth_1, nth_2, usesC, hm, uses_wk hm, hc', Bool.not_true, cond_true, cond_false]
  · cases hv
end Go.Ev.T
