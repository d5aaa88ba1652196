/- Functions 75, 79 (what Check and Size do at each statement), decompiled, and what they come to. -/
import Derived.Test.YtljiamlnpmhpmaaF76a
set_option linter.unusedVariables false
set_option linter.unusedSimpArgs false
noncomputable section
namespace Go.Ev
/-- what Check has told, behind statement k -/
def chk (k at_ e : Int) (ok : Bool) : Int × Int := bif decide (k = 512) then (k, 4) else bif !ok then (k, 160) else (at_, e)
end Go.Ev
namespace Go.Ev.T
open Go Go.Ev Go.Proofs
def f75_J5 (nt : Nat) (X : Call') (n : Nat)  (i38 : Int) (i39 : Int) : Option (List AV × List AObj) :=
  some (([AV.bool (decide (i39 = 0))], [AObj.box 3 [AV.int IntKind.i64 i38], AObj.box 35 [AV.int IntKind.i64 i39]]))
def f75 (nt : Nat) (X : Call') (n : Nat) (a0 : Int) (a1 : List UInt8) (a2 : List UInt8) (a3 : Int) (a4 : Int) (a5 : Int) (a6 : Int) (a7 : List UInt8) (a8T : Nat) (a8C : Cp) (a8 : List Row) (a9 : Int) (a10 : Int) (a11 : List UInt8) (a12T : Nat) (a12C : Cp) (a12 : List Row) (a13T : Nat) (a13C : Cp) (a13 : List Row) (a14T : Nat) (a14C : Cp) (a14 : List Row) (a15T : Nat) (a15C : Cp) (a15 : List Row) (a16T : Nat) (a16C : Cp) (a16 : List Row) (k : Int) (at_ : Int) (e : Int) : Option (List AV × List AObj) :=
  (bif decide (k = 512) then f75_J5 nt X n  (k) (4) else ((X 76 [AV.agg [AV.int IntKind.u8 a0, AV.str a1, AV.str a2, AV.int IntKind.u8 a3, AV.int IntKind.u8 a4, AV.int IntKind.u8 a5, AV.int IntKind.i64 a6, AV.str a7, AV.ps a8T 26 a8C a8, AV.int IntKind.u8 a9, AV.int IntKind.i64 a10, AV.str a11, AV.ps a12T 26 a12C a12, AV.ps a13T 58 a13C a13, AV.ps a14T 58 a14C a14, AV.ps a15T 58 a15C a15, AV.ps a16T 9 a16C a16]] []).bind fun r37 => (bif !AV.toB (nth AV.u (AV.toCells (nth AV.u (Prod.fst r37) 0)) 0) then f75_J5 nt X n  (k) (160) else f75_J5 nt X n  (at_) (e))))
theorem f75_q (nt : Nat) (X : Call') (n : Nat) (a0 : Int) (a1 : List UInt8) (a2 : List UInt8) (a3 : Int) (a4 : Int) (a5 : Int) (a6 : Int) (a7 : List UInt8) (a8T : Nat) (a8C : Cp) (a8 : List Row) (a9 : Int) (a10 : Int) (a11 : List UInt8) (a12T : Nat) (a12C : Cp) (a12 : List Row) (a13T : Nat) (a13C : Cp) (a13 : List Row) (a14T : Nat) (a14C : Cp) (a14 : List Row) (a15T : Nat) (a15C : Cp) (a15 : List Row) (a16T : Nat) (a16C : Cp) (a16 : List Row) (k : Int) (deep : Int) (at_ : Int) (e : Int) : evBody ⟨L, F, nt, X⟩ (lookV V 75) n Try.f75 (sig F 75).res [AV.int IntKind.i64 k, AV.int IntKind.i64 deep, AV.agg [AV.int IntKind.u8 a0, AV.str a1, AV.str a2, AV.int IntKind.u8 a3, AV.int IntKind.u8 a4, AV.int IntKind.u8 a5, AV.int IntKind.i64 a6, AV.str a7, AV.ps a8T 26 a8C a8, AV.int IntKind.u8 a9, AV.int IntKind.i64 a10, AV.str a11, AV.ps a12T 26 a12C a12, AV.ps a13T 58 a13C a13, AV.ps a14T 58 a14C a14, AV.ps a15T 58 a15C a15, AV.ps a16T 9 a16C a16], AV.ptr 0 0 0 0, AV.ptr 1 0 0 0] [AObj.box 3 [AV.int IntKind.i64 at_], AObj.box 35 [AV.int IntKind.i64 e]] = f75 nt X n a0 a1 a2 a3 a4 a5 a6 a7 a8T a8C a8 a9 a10 a11 a12T a12C a12 a13T a13C a13 a14T a14C a14 a15T a15C a15 a16T a16C a16 k at_ e := by kernel_rfl
def f79 (nt : Nat) (X : Call') (n : Nat)  : Option (List AV × List AObj) :=
  some (([AV.bool true], []))
theorem f79_q (nt : Nat) (X : Call') (n : Nat) (a : Int) (b : Int) (c0 : Int) (c1 : List UInt8) (c2 : List UInt8) (c3 : Int) (c4 : Int) (c5 : Int) (c6 : Int) (c7 : List UInt8) (c8T : Nat) (c8C : Cp) (c8 : List Row) (c9 : Int) (c10 : Int) (c11 : List UInt8) (c12T : Nat) (c12C : Cp) (c12 : List Row) (c13T : Nat) (c13C : Cp) (c13 : List Row) (c14T : Nat) (c14C : Cp) (c14 : List Row) (c15T : Nat) (c15C : Cp) (c15 : List Row) (c16T : Nat) (c16C : Cp) (c16 : List Row) : evBody ⟨L, F, nt, X⟩ (lookV V 79) n Try.f79 (sig F 79).res [AV.int IntKind.i64 a, AV.int IntKind.i64 b, AV.agg [AV.int IntKind.u8 c0, AV.str c1, AV.str c2, AV.int IntKind.u8 c3, AV.int IntKind.u8 c4, AV.int IntKind.u8 c5, AV.int IntKind.i64 c6, AV.str c7, AV.ps c8T 26 c8C c8, AV.int IntKind.u8 c9, AV.int IntKind.i64 c10, AV.str c11, AV.ps c12T 26 c12C c12, AV.ps c13T 58 c13C c13, AV.ps c14T 58 c14C c14, AV.ps c15T 58 c15C c15, AV.ps c16T 9 c16C c16]] [] = f79 nt X n  := by kernel_rfl
def sp75 : Sp
  | [.int .i64 kk, .int .i64 deep, .agg [.int .u8 op, .str nm, .str sec, .int .u8 ab, .int .u8 wh, .int .u8 k, .int .i64 n, .str s, .ps t 26 c l, .int .u8 k2, .int .i64 n2, .str s2, .ps t2 26 c2 l2, .ps t3 58 c3 l3, .ps t4 58 c4 l4, .ps t5 58 c5 l5, .ps t6 9 c6 l6], .ptr 0 0 0 0, .ptr 1 0 0 0], [.box 3 [.int .i64 at_], .box 35 [.int .i64 e]] =>
    bif gS ab l l2 l6 then some ([.bool (decide ((chk kk at_ e (maySm (.mk op nm sec ab wh (.mk k n s (exsOf l)) (.mk k2 n2 s2 (exsOf l2)) (smsOf l3) (smsOf l4) (smsOf l5) (strsOf l6)))).2 = 0))], [.box 3 [.int .i64 (chk kk at_ e (maySm (.mk op nm sec ab wh (.mk k n s (exsOf l)) (.mk k2 n2 s2 (exsOf l2)) (smsOf l3) (smsOf l4) (smsOf l5) (strsOf l6)))).1], .box 35 [.int .i64 (chk kk at_ e (maySm (.mk op nm sec ab wh (.mk k n s (exsOf l)) (.mk k2 n2 s2 (exsOf l2)) (smsOf l3) (smsOf l4) (smsOf l5) (strsOf l6)))).2]]) else none
  | _, _ => none
theorem told75 (nt : Nat) : Facts nt 75 sp75 := fun args h rs h' hv => by
  unfold sp75 at hv
  split at hv
  · rename_i kk deep op nm sec ab wh k n s t c l k2 n2 s2 t2 c2 l2 t3 c3 l3 t4 c4 l4 t5 c5 l5 t6 c6 l6 at_ e
    cases hb : gS ab l l2 l6
    · rw [hb] at hv; cases hv
    · rw [hb] at hv
      refine fact_tab Try.func75 [⟨76, sp76, told76 nt⟩] 1 ?_
      rw [f75_q, ← hv]
      have e1 : tab [⟨76, sp76, told76 nt⟩] 76 [.agg [.int .u8 op, .str nm, .str sec, .int .u8 ab, .int .u8 wh, .int .u8 k, .int .i64 n, .str s, .ps t 26 c l, .int .u8 k2, .int .i64 n2, .str s2, .ps t2 26 c2 l2, .ps t3 58 c3 l3, .ps t4 58 c4 l4, .ps t5 58 c5 l5, .ps t6 9 c6 l6]] [] = some ([.bool (maySm (.mk op nm sec ab wh (.mk k n s (exsOf l)) (.mk k2 n2 s2 (exsOf l2)) (smsOf l3) (smsOf l4) (smsOf l5) (strsOf l6)))], []) := by
        rw [tab_hit]; simp only [sp76, hb, cond_true]
      simp only [f75, e1, Option.bind_some, toB_bool, toCells_bool, nth_zero, cond_true, f75_J5, chk]
      rcases Decidable.em (kk = 512) with q | q <;> by_cases hm : maySm (.mk op nm sec ab wh (.mk k n s (exsOf l)) (.mk k2 n2 s2 (exsOf l2)) (smsOf l3) (smsOf l4) (smsOf l5) (strsOf l6)) = true <;> simp [q, hm]
  · cases hv
def sp79 : Sp
  | [.int .i64 kk, .int .i64 deep, .agg [.int .u8 op, .str nm, .str sec, .int .u8 ab, .int .u8 wh, .int .u8 k, .int .i64 n, .str s, .ps t 26 c l, .int .u8 k2, .int .i64 n2, .str s2, .ps t2 26 c2 l2, .ps t3 58 c3 l3, .ps t4 58 c4 l4, .ps t5 58 c5 l5, .ps t6 9 c6 l6]], [] => some ([.bool true], [])
  | _, _ => none
theorem told79 (nt : Nat) : Facts nt 79 sp79 := fun args h rs h' hv => by
  unfold sp79 at hv
  split at hv
  · refine fact_tab Try.func79 [] 1 ?_
    rw [f79_q, ← hv]
    rfl
  · cases hv
end Go.Ev.T
