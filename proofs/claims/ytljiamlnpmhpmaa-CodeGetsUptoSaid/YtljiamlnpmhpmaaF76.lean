/- Functions 117 and 76 (whether a statement may be, its blocks not being looked at), decompiled, and what they come to; a Make apart. -/
import Derived.Test.YtljiamlnpmhpmaaStmt
set_option linter.unusedVariables false
set_option linter.unusedSimpArgs false
noncomputable section
namespace Go.Ev
def may1 (nm sec : List UInt8) (ab wh : Int) (a b : Ex) (n3 n4 n5 n6 : Nat) : Bool := (mayName nm && orNoEx a) && decide (sec = []) && decide (ab = 0) && decide (wh = 0) && noEx b && decide ((0 : Int) = (n3 : Int)) && decide ((0 : Int) = (n4 : Int)) && decide ((0 : Int) = (n5 : Int)) && decide ((0 : Int) = (n6 : Int))
def may2 (nm sec : List UInt8) (ab wh : Int) (a b : Ex) (n3 n4 n5 n6 : Nat) : Bool := (mayName nm && oneAb ab && mayEx a && orNoEx b && (noEx b || (!decide (ab = 1) && !decide (ab = 32)))) && decide (sec = []) && decide (wh = 0) && decide ((0 : Int) = (n3 : Int)) && decide ((0 : Int) = (n4 : Int)) && decide ((0 : Int) = (n5 : Int)) && decide ((0 : Int) = (n6 : Int))
def may4 (nm sec : List UInt8) (ab wh : Int) (a b : Ex) (n3 n4 n5 n6 : Nat) : Bool := (mayName nm && mayEx a && mayEx b) && decide (sec = []) && decide (ab = 0) && decide (wh = 0) && decide ((0 : Int) = (n3 : Int)) && decide ((0 : Int) = (n4 : Int)) && decide ((0 : Int) = (n5 : Int)) && decide ((0 : Int) = (n6 : Int))
def may5 (nm sec : List UInt8) (ab wh : Int) (a b : Ex) (n3 n4 n5 n6 : Nat) : Bool := (orNoEx a && orNoEx b) && decide (nm = []) && decide (sec = []) && decide (ab = 0) && decide (wh = 0) && decide ((0 : Int) = (n5 : Int)) && decide ((0 : Int) = (n6 : Int))
def may6 (nm sec : List UInt8) (ab wh : Int) (a b : Ex) (n3 n4 n5 n6 : Nat) : Bool := (mayEx a && mayAb ab) && decide (nm = []) && decide (sec = []) && decide (wh = 0) && noEx b && decide ((0 : Int) = (n5 : Int)) && decide ((0 : Int) = (n6 : Int))
def may7 (nm sec : List UInt8) (ab wh : Int) (a b : Ex) (n3 n4 n5 n6 : Nat) : Bool := (orNoEx a) && decide (nm = []) && decide (sec = []) && decide (ab = 0) && decide (wh = 0) && noEx b && decide ((0 : Int) = (n3 : Int)) && decide ((0 : Int) = (n4 : Int)) && decide ((0 : Int) = (n5 : Int)) && decide ((0 : Int) = (n6 : Int))
def may8 (nm sec : List UInt8) (ab wh : Int) (a b : Ex) (n3 n4 n5 n6 : Nat) : Bool := (true) && decide (nm = []) && decide (sec = []) && decide (ab = 0) && decide (wh = 0) && noEx a && noEx b && decide ((0 : Int) = (n3 : Int)) && decide ((0 : Int) = (n4 : Int)) && decide ((0 : Int) = (n5 : Int)) && decide ((0 : Int) = (n6 : Int))
def may9 (nm sec : List UInt8) (ab wh : Int) (a b : Ex) (n3 n4 n5 n6 : Nat) : Bool := (mayName nm && mayEx a) && decide (sec = []) && decide (ab = 0) && decide (wh = 0) && noEx b && decide ((0 : Int) = (n3 : Int)) && decide ((0 : Int) = (n4 : Int)) && decide ((0 : Int) = (n5 : Int)) && decide ((0 : Int) = (n6 : Int))
end Go.Ev
namespace Go.Ev.T
theorem noEx0 : noEx (.mk 0 0 [] (exsOf [])) = true := by simp [noEx, exsOf]
open Go Go.Ev Go.Proofs
def f117 (nt : Nat) (X : Call') (n : Nat)  : Option (List AV × List AObj) :=
  some (([AV.map 0], [AObj.mp 134 [(AV.int IntKind.u8 1, AV.func (some 138) []), (AV.int IntKind.u8 2, AV.func (some 139) []), (AV.int IntKind.u8 3, AV.func (some 141) []), (AV.int IntKind.u8 4, AV.func (some 142) []), (AV.int IntKind.u8 5, AV.func (some 143) []), (AV.int IntKind.u8 6, AV.func (some 144) []), (AV.int IntKind.u8 7, AV.func (some 146) []), (AV.int IntKind.u8 8, AV.func (some 147) []), (AV.int IntKind.u8 9, AV.func (some 148) [])]]))
theorem f117_q (nt : Nat) (X : Call') (n : Nat)  : evBody ⟨L, F, nt, X⟩ (lookV V 117) n Try.f117 (sig F 117).res [] [] = f117 nt X n  := by kernel_rfl
theorem fact117 (nt : Nat) : Fact Try.prog L F nt 117 [] [] formsR.1 formsR.2 := fact_tab Try.func117 [] 1 (by rw [f117_q]; rfl)
def f76o1_J8 (nt : Nat) (X : Call') (n : Nat) (a13 : List Row) (a14 : List Row) (a15 : List Row) (a16 : List Row) (r32 : List AV × List AObj) (b38 : Bool) : Option (List AV × List AObj) :=
  (bif b38 then some (([AV.bool false], [])) else (bif decide ((↑(List.length (AV.toR (nth AV.u (AV.toCells (nth AV.u (Prod.fst r32) 0)) 13))) : Int) = (↑(List.length a13) : Int)) then (bif decide ((↑(List.length (AV.toR (nth AV.u (AV.toCells (nth AV.u (Prod.fst r32) 0)) 14))) : Int) = (↑(List.length a14) : Int)) then (bif decide ((↑(List.length (AV.toR (nth AV.u (AV.toCells (nth AV.u (Prod.fst r32) 0)) 15))) : Int) = (↑(List.length a15) : Int)) then some (([AV.bool (decide ((↑(List.length (AV.toR (nth AV.u (AV.toCells (nth AV.u (Prod.fst r32) 0)) 16))) : Int) = (↑(List.length a16) : Int)))], [])) else some (([AV.bool false], []))) else some (([AV.bool false], []))) else some (([AV.bool false], []))))
def f76o1_J6 (nt : Nat) (X : Call') (n : Nat) (a5 : Int) (a6 : Int) (a7 : List UInt8) (a8T : Nat) (a8C : Cp) (a8 : List Row) (a9 : Int) (a10 : Int) (a11 : List UInt8) (a12T : Nat) (a12C : Cp) (a12 : List Row) (a13 : List Row) (a14 : List Row) (a15 : List Row) (a16 : List Row) (r32 : List AV × List AObj) (b33 : Bool) : Option (List AV × List AObj) :=
  (bif b33 then some (([AV.bool false], [])) else ((X 106 [AV.agg [AV.int IntKind.u8 (AV.toI (nth AV.u (AV.toCells (nth AV.u (Prod.fst r32) 0)) 5)), AV.int IntKind.i64 (AV.toI (nth AV.u (AV.toCells (nth AV.u (Prod.fst r32) 0)) 6)), AV.str (AV.toS (nth AV.u (AV.toCells (nth AV.u (Prod.fst r32) 0)) 7)), AV.ps (AV.toTg (nth AV.u (AV.toCells (nth AV.u (Prod.fst r32) 0)) 8)) 26 (AV.toCp (nth AV.u (AV.toCells (nth AV.u (Prod.fst r32) 0)) 8)) (AV.toR (nth AV.u (AV.toCells (nth AV.u (Prod.fst r32) 0)) 8))]] []).bind fun r34 => ((X 106 [AV.agg [AV.int IntKind.u8 a5, AV.int IntKind.i64 a6, AV.str a7, AV.ps a8T 26 a8C a8]] []).bind fun r35 => (bif !AV.toB (nth AV.u (AV.toCells (nth AV.u (Prod.fst r34) 0)) 0) == AV.toB (nth AV.u (AV.toCells (nth AV.u (Prod.fst r35) 0)) 0) then f76o1_J8 nt X n a13 a14 a15 a16 r32 (true) else ((X 106 [AV.agg [AV.int IntKind.u8 (AV.toI (nth AV.u (AV.toCells (nth AV.u (Prod.fst r32) 0)) 9)), AV.int IntKind.i64 (AV.toI (nth AV.u (AV.toCells (nth AV.u (Prod.fst r32) 0)) 10)), AV.str (AV.toS (nth AV.u (AV.toCells (nth AV.u (Prod.fst r32) 0)) 11)), AV.ps (AV.toTg (nth AV.u (AV.toCells (nth AV.u (Prod.fst r32) 0)) 12)) 26 (AV.toCp (nth AV.u (AV.toCells (nth AV.u (Prod.fst r32) 0)) 12)) (AV.toR (nth AV.u (AV.toCells (nth AV.u (Prod.fst r32) 0)) 12))]] []).bind fun r36 => ((X 106 [AV.agg [AV.int IntKind.u8 a9, AV.int IntKind.i64 a10, AV.str a11, AV.ps a12T 26 a12C a12]] []).bind fun r37 => f76o1_J8 nt X n a13 a14 a15 a16 r32 (!AV.toB (nth AV.u (AV.toCells (nth AV.u (Prod.fst r36) 0)) 0) == AV.toB (nth AV.u (AV.toCells (nth AV.u (Prod.fst r37) 0)) 0))))))))
def f76o1 (nt : Nat) (X : Call') (n : Nat) (a1 : List UInt8) (a2 : List UInt8) (a3 : Int) (a4 : Int) (a5 : Int) (a6 : Int) (a7 : List UInt8) (a8T : Nat) (a8C : Cp) (a8 : List Row) (a9 : Int) (a10 : Int) (a11 : List UInt8) (a12T : Nat) (a12C : Cp) (a12 : List Row) (a13T : Nat) (a13C : Cp) (a13 : List Row) (a14T : Nat) (a14C : Cp) (a14 : List Row) (a15T : Nat) (a15C : Cp) (a15 : List Row) (a16T : Nat) (a16C : Cp) (a16 : List Row) : Option (List AV × List AObj) :=
  ((X 138 [AV.agg [AV.int IntKind.u8 1, AV.str a1, AV.str a2, AV.int IntKind.u8 a3, AV.int IntKind.u8 a4, AV.int IntKind.u8 a5, AV.int IntKind.i64 a6, AV.str a7, AV.ps a8T 26 a8C a8, AV.int IntKind.u8 a9, AV.int IntKind.i64 a10, AV.str a11, AV.ps a12T 26 a12C a12, AV.ps a13T 58 a13C a13, AV.ps a14T 58 a14C a14, AV.ps a15T 58 a15C a15, AV.ps a16T 9 a16C a16]] []).bind fun r32 => (bif !AV.toB (nth AV.u (AV.toCells (nth AV.u (Prod.fst r32) 1)) 0) then f76o1_J6 nt X n a5 a6 a7 a8T a8C a8 a9 a10 a11 a12T a12C a12 a13 a14 a15 a16 r32 (true) else (bif !decide (a1 = AV.toS (nth AV.u (AV.toCells (nth AV.u (Prod.fst r32) 0)) 1)) then f76o1_J6 nt X n a5 a6 a7 a8T a8C a8 a9 a10 a11 a12T a12C a12 a13 a14 a15 a16 r32 (true) else (bif !decide (a2 = AV.toS (nth AV.u (AV.toCells (nth AV.u (Prod.fst r32) 0)) 2)) then f76o1_J6 nt X n a5 a6 a7 a8T a8C a8 a9 a10 a11 a12T a12C a12 a13 a14 a15 a16 r32 (true) else (bif !decide (a3 = AV.toI (nth AV.u (AV.toCells (nth AV.u (Prod.fst r32) 0)) 3)) then f76o1_J6 nt X n a5 a6 a7 a8T a8C a8 a9 a10 a11 a12T a12C a12 a13 a14 a15 a16 r32 (true) else f76o1_J6 nt X n a5 a6 a7 a8T a8C a8 a9 a10 a11 a12T a12C a12 a13 a14 a15 a16 r32 (!decide (a4 = AV.toI (nth AV.u (AV.toCells (nth AV.u (Prod.fst r32) 0)) 4))))))))
theorem f76o1_q (nt : Nat) (X : Call') (n : Nat) (a1 : List UInt8) (a2 : List UInt8) (a3 : Int) (a4 : Int) (a5 : Int) (a6 : Int) (a7 : List UInt8) (a8T : Nat) (a8C : Cp) (a8 : List Row) (a9 : Int) (a10 : Int) (a11 : List UInt8) (a12T : Nat) (a12C : Cp) (a12 : List Row) (a13T : Nat) (a13C : Cp) (a13 : List Row) (a14T : Nat) (a14C : Cp) (a14 : List Row) (a15T : Nat) (a15C : Cp) (a15 : List Row) (a16T : Nat) (a16C : Cp) (a16 : List Row) : evBody ⟨L, F, nt, ovr 117 formsR X⟩ (lookV V 76) n Try.f76 (sig F 76).res [AV.agg [AV.int IntKind.u8 1, AV.str a1, AV.str a2, AV.int IntKind.u8 a3, AV.int IntKind.u8 a4, AV.int IntKind.u8 a5, AV.int IntKind.i64 a6, AV.str a7, AV.ps a8T 26 a8C a8, AV.int IntKind.u8 a9, AV.int IntKind.i64 a10, AV.str a11, AV.ps a12T 26 a12C a12, AV.ps a13T 58 a13C a13, AV.ps a14T 58 a14C a14, AV.ps a15T 58 a15C a15, AV.ps a16T 9 a16C a16]] [] = f76o1 nt X n a1 a2 a3 a4 a5 a6 a7 a8T a8C a8 a9 a10 a11 a12T a12C a12 a13T a13C a13 a14T a14C a14 a15T a15C a15 a16T a16C a16 := by kernel_rfl
theorem may1_fact {nt : Nat} {nm sec s s2 : List UInt8} {ab wh k n k2 n2 : Int} {t t2 t3 t4 t5 t6 : Nat} {c c2 c3 c4 c5 c6 : Cp} {l l2 l3 l4 l5 l6 : List Row} (hb : gS ab l l2 l6 = true) :
    Fact Try.prog L F nt 76 [.agg [.int .u8 1, .str nm, .str sec, .int .u8 ab, .int .u8 wh, .int .u8 k, .int .i64 n, .str s, .ps t 26 c l, .int .u8 k2, .int .i64 n2, .str s2, .ps t2 26 c2 l2, .ps t3 58 c3 l3, .ps t4 58 c4 l4, .ps t5 58 c5 l5, .ps t6 9 c6 l6]] [] [.bool (may1 nm sec ab wh (.mk k n s (exsOf l)) (.mk k2 n2 s2 (exsOf l2)) l3.length l4.length l5.length l6.length)] [] := by
  refine fact_ovr Try.func76 (fact117 nt) (⟨138, sp138, told138 nt⟩ :: TS nt) 1 ?_
  have e1 : tab (⟨138, sp138, told138 nt⟩ :: TS nt) 138 [.agg [.int .u8 1, .str nm, .str sec, .int .u8 ab, .int .u8 wh, .int .u8 k, .int .i64 n, .str s, .ps t 26 c l, .int .u8 k2, .int .i64 n2, .str s2, .ps t2 26 c2 l2, .ps t3 58 c3 l3, .ps t4 58 c4 l4, .ps t5 58 c5 l5, .ps t6 9 c6 l6]] [] = some ([.agg [.int .u8 0, .str nm, .str [], .int .u8 0, .int .u8 0, .int .u8 k, .int .i64 n, .str s, .ps t 26 c l, .int .u8 0, .int .i64 0, .str [], .ps 0 26 ⟨true, true⟩ [], .ps 0 58 ⟨true, true⟩ [], .ps 0 58 ⟨true, true⟩ [], .ps 0 58 ⟨true, true⟩ [], .ps 0 9 ⟨true, true⟩ []], .bool (mayName nm && orNoEx (.mk k n s (exsOf l)))], []) := by
    rw [tab_hit]; simp only [sp138, hb, cond_true]
  have e2 : ∀ (k n : Int) (s : List UInt8) (t : Nat) (c : Cp) (l : List Row), tab (⟨138, sp138, told138 nt⟩ :: TS nt) 106 [.agg [.int .u8 k, .int .i64 n, .str s, .ps t 26 c l]] [] = some ([.bool (noEx (.mk k n s (exsOf l)))], []) := fun k n s t c l => rfl
  rw [f76o1_q]
  unfold f76o1 may1
  rw [e1]
  dsimp only [Option.bind_some, f76o1_J8, f76o1_J6, nth_zero, nth_1, nth_2, nth_3, nth_4, nth, toCells_agg, toCells_bool, toI_int, toS_str, toR_ps, toB_bool, AV.toTg, AV.toCp, AV.toCells, AV.toB, AV.toI, AV.toS, AV.toR]
  simp only [e2, Option.bind_some, nth_zero, toCells_bool, toB_bool, noEx0]
  generalize (mayName nm && orNoEx (.mk k n s (exsOf l))) = b0
  generalize noEx (.mk k2 n2 s2 (exsOf l2)) = b_B
  cases b0
  · rfl
  rcases Decidable.em (sec = []) with q_second | q_second
  rotate_left
  · simp [q_second]
  rcases Decidable.em (ab = 0) with q_able | q_able
  rotate_left
  · simp [q_second, q_able]
  rcases Decidable.em (wh = 0) with q_what | q_what
  rotate_left
  · simp [q_second, q_able, q_what]
  cases b_B
  · simp [q_second, q_able, q_what]
  rcases Decidable.em ((l3.length : Int) = 0) with q_then | q_then
  rotate_left
  · simp [q_second, q_able, q_what, q_then, Ne.symm q_then]
  rcases Decidable.em ((l4.length : Int) = 0) with q_else | q_else
  rotate_left
  · simp [q_second, q_able, q_what, q_then, q_else, Ne.symm q_else]
  rcases Decidable.em ((l5.length : Int) = 0) with q_code | q_code
  rotate_left
  · simp [q_second, q_able, q_what, q_then, q_else, q_code, Ne.symm q_code]
  rcases Decidable.em ((l6.length : Int) = 0) with q_with | q_with
  rotate_left
  · simp [q_second, q_able, q_what, q_then, q_else, q_code, q_with, Ne.symm q_with]
  simp [q_second, q_able, q_what, q_then, q_else, q_code, q_with]
def f76o2_J8 (nt : Nat) (X : Call') (n : Nat) (a13 : List Row) (a14 : List Row) (a15 : List Row) (a16 : List Row) (r32 : List AV × List AObj) (b38 : Bool) : Option (List AV × List AObj) :=
  (bif b38 then some (([AV.bool false], [])) else (bif decide ((↑(List.length (AV.toR (nth AV.u (AV.toCells (nth AV.u (Prod.fst r32) 0)) 13))) : Int) = (↑(List.length a13) : Int)) then (bif decide ((↑(List.length (AV.toR (nth AV.u (AV.toCells (nth AV.u (Prod.fst r32) 0)) 14))) : Int) = (↑(List.length a14) : Int)) then (bif decide ((↑(List.length (AV.toR (nth AV.u (AV.toCells (nth AV.u (Prod.fst r32) 0)) 15))) : Int) = (↑(List.length a15) : Int)) then some (([AV.bool (decide ((↑(List.length (AV.toR (nth AV.u (AV.toCells (nth AV.u (Prod.fst r32) 0)) 16))) : Int) = (↑(List.length a16) : Int)))], [])) else some (([AV.bool false], []))) else some (([AV.bool false], []))) else some (([AV.bool false], []))))
def f76o2_J6 (nt : Nat) (X : Call') (n : Nat) (a5 : Int) (a6 : Int) (a7 : List UInt8) (a8T : Nat) (a8C : Cp) (a8 : List Row) (a9 : Int) (a10 : Int) (a11 : List UInt8) (a12T : Nat) (a12C : Cp) (a12 : List Row) (a13 : List Row) (a14 : List Row) (a15 : List Row) (a16 : List Row) (r32 : List AV × List AObj) (b33 : Bool) : Option (List AV × List AObj) :=
  (bif b33 then some (([AV.bool false], [])) else ((X 106 [AV.agg [AV.int IntKind.u8 (AV.toI (nth AV.u (AV.toCells (nth AV.u (Prod.fst r32) 0)) 5)), AV.int IntKind.i64 (AV.toI (nth AV.u (AV.toCells (nth AV.u (Prod.fst r32) 0)) 6)), AV.str (AV.toS (nth AV.u (AV.toCells (nth AV.u (Prod.fst r32) 0)) 7)), AV.ps (AV.toTg (nth AV.u (AV.toCells (nth AV.u (Prod.fst r32) 0)) 8)) 26 (AV.toCp (nth AV.u (AV.toCells (nth AV.u (Prod.fst r32) 0)) 8)) (AV.toR (nth AV.u (AV.toCells (nth AV.u (Prod.fst r32) 0)) 8))]] []).bind fun r34 => ((X 106 [AV.agg [AV.int IntKind.u8 a5, AV.int IntKind.i64 a6, AV.str a7, AV.ps a8T 26 a8C a8]] []).bind fun r35 => (bif !AV.toB (nth AV.u (AV.toCells (nth AV.u (Prod.fst r34) 0)) 0) == AV.toB (nth AV.u (AV.toCells (nth AV.u (Prod.fst r35) 0)) 0) then f76o2_J8 nt X n a13 a14 a15 a16 r32 (true) else ((X 106 [AV.agg [AV.int IntKind.u8 (AV.toI (nth AV.u (AV.toCells (nth AV.u (Prod.fst r32) 0)) 9)), AV.int IntKind.i64 (AV.toI (nth AV.u (AV.toCells (nth AV.u (Prod.fst r32) 0)) 10)), AV.str (AV.toS (nth AV.u (AV.toCells (nth AV.u (Prod.fst r32) 0)) 11)), AV.ps (AV.toTg (nth AV.u (AV.toCells (nth AV.u (Prod.fst r32) 0)) 12)) 26 (AV.toCp (nth AV.u (AV.toCells (nth AV.u (Prod.fst r32) 0)) 12)) (AV.toR (nth AV.u (AV.toCells (nth AV.u (Prod.fst r32) 0)) 12))]] []).bind fun r36 => ((X 106 [AV.agg [AV.int IntKind.u8 a9, AV.int IntKind.i64 a10, AV.str a11, AV.ps a12T 26 a12C a12]] []).bind fun r37 => f76o2_J8 nt X n a13 a14 a15 a16 r32 (!AV.toB (nth AV.u (AV.toCells (nth AV.u (Prod.fst r36) 0)) 0) == AV.toB (nth AV.u (AV.toCells (nth AV.u (Prod.fst r37) 0)) 0))))))))
def f76o2 (nt : Nat) (X : Call') (n : Nat) (a1 : List UInt8) (a2 : List UInt8) (a3 : Int) (a4 : Int) (a5 : Int) (a6 : Int) (a7 : List UInt8) (a8T : Nat) (a8C : Cp) (a8 : List Row) (a9 : Int) (a10 : Int) (a11 : List UInt8) (a12T : Nat) (a12C : Cp) (a12 : List Row) (a13T : Nat) (a13C : Cp) (a13 : List Row) (a14T : Nat) (a14C : Cp) (a14 : List Row) (a15T : Nat) (a15C : Cp) (a15 : List Row) (a16T : Nat) (a16C : Cp) (a16 : List Row) : Option (List AV × List AObj) :=
  ((X 139 [AV.agg [AV.int IntKind.u8 2, AV.str a1, AV.str a2, AV.int IntKind.u8 a3, AV.int IntKind.u8 a4, AV.int IntKind.u8 a5, AV.int IntKind.i64 a6, AV.str a7, AV.ps a8T 26 a8C a8, AV.int IntKind.u8 a9, AV.int IntKind.i64 a10, AV.str a11, AV.ps a12T 26 a12C a12, AV.ps a13T 58 a13C a13, AV.ps a14T 58 a14C a14, AV.ps a15T 58 a15C a15, AV.ps a16T 9 a16C a16]] []).bind fun r32 => (bif !AV.toB (nth AV.u (AV.toCells (nth AV.u (Prod.fst r32) 1)) 0) then f76o2_J6 nt X n a5 a6 a7 a8T a8C a8 a9 a10 a11 a12T a12C a12 a13 a14 a15 a16 r32 (true) else (bif !decide (a1 = AV.toS (nth AV.u (AV.toCells (nth AV.u (Prod.fst r32) 0)) 1)) then f76o2_J6 nt X n a5 a6 a7 a8T a8C a8 a9 a10 a11 a12T a12C a12 a13 a14 a15 a16 r32 (true) else (bif !decide (a2 = AV.toS (nth AV.u (AV.toCells (nth AV.u (Prod.fst r32) 0)) 2)) then f76o2_J6 nt X n a5 a6 a7 a8T a8C a8 a9 a10 a11 a12T a12C a12 a13 a14 a15 a16 r32 (true) else (bif !decide (a3 = AV.toI (nth AV.u (AV.toCells (nth AV.u (Prod.fst r32) 0)) 3)) then f76o2_J6 nt X n a5 a6 a7 a8T a8C a8 a9 a10 a11 a12T a12C a12 a13 a14 a15 a16 r32 (true) else f76o2_J6 nt X n a5 a6 a7 a8T a8C a8 a9 a10 a11 a12T a12C a12 a13 a14 a15 a16 r32 (!decide (a4 = AV.toI (nth AV.u (AV.toCells (nth AV.u (Prod.fst r32) 0)) 4))))))))
theorem f76o2_q (nt : Nat) (X : Call') (n : Nat) (a1 : List UInt8) (a2 : List UInt8) (a3 : Int) (a4 : Int) (a5 : Int) (a6 : Int) (a7 : List UInt8) (a8T : Nat) (a8C : Cp) (a8 : List Row) (a9 : Int) (a10 : Int) (a11 : List UInt8) (a12T : Nat) (a12C : Cp) (a12 : List Row) (a13T : Nat) (a13C : Cp) (a13 : List Row) (a14T : Nat) (a14C : Cp) (a14 : List Row) (a15T : Nat) (a15C : Cp) (a15 : List Row) (a16T : Nat) (a16C : Cp) (a16 : List Row) : evBody ⟨L, F, nt, ovr 117 formsR X⟩ (lookV V 76) n Try.f76 (sig F 76).res [AV.agg [AV.int IntKind.u8 2, AV.str a1, AV.str a2, AV.int IntKind.u8 a3, AV.int IntKind.u8 a4, AV.int IntKind.u8 a5, AV.int IntKind.i64 a6, AV.str a7, AV.ps a8T 26 a8C a8, AV.int IntKind.u8 a9, AV.int IntKind.i64 a10, AV.str a11, AV.ps a12T 26 a12C a12, AV.ps a13T 58 a13C a13, AV.ps a14T 58 a14C a14, AV.ps a15T 58 a15C a15, AV.ps a16T 9 a16C a16]] [] = f76o2 nt X n a1 a2 a3 a4 a5 a6 a7 a8T a8C a8 a9 a10 a11 a12T a12C a12 a13T a13C a13 a14T a14C a14 a15T a15C a15 a16T a16C a16 := by kernel_rfl
theorem may2_fact {nt : Nat} {nm sec s s2 : List UInt8} {ab wh k n k2 n2 : Int} {t t2 t3 t4 t5 t6 : Nat} {c c2 c3 c4 c5 c6 : Cp} {l l2 l3 l4 l5 l6 : List Row} (hb : gS ab l l2 l6 = true) :
    Fact Try.prog L F nt 76 [.agg [.int .u8 2, .str nm, .str sec, .int .u8 ab, .int .u8 wh, .int .u8 k, .int .i64 n, .str s, .ps t 26 c l, .int .u8 k2, .int .i64 n2, .str s2, .ps t2 26 c2 l2, .ps t3 58 c3 l3, .ps t4 58 c4 l4, .ps t5 58 c5 l5, .ps t6 9 c6 l6]] [] [.bool (may2 nm sec ab wh (.mk k n s (exsOf l)) (.mk k2 n2 s2 (exsOf l2)) l3.length l4.length l5.length l6.length)] [] := by
  refine fact_ovr Try.func76 (fact117 nt) (⟨139, sp139, told139 nt⟩ :: TS nt) 1 ?_
  have e1 : tab (⟨139, sp139, told139 nt⟩ :: TS nt) 139 [.agg [.int .u8 2, .str nm, .str sec, .int .u8 ab, .int .u8 wh, .int .u8 k, .int .i64 n, .str s, .ps t 26 c l, .int .u8 k2, .int .i64 n2, .str s2, .ps t2 26 c2 l2, .ps t3 58 c3 l3, .ps t4 58 c4 l4, .ps t5 58 c5 l5, .ps t6 9 c6 l6]] [] = some ([.agg [.int .u8 0, .str nm, .str [], .int .u8 ab, .int .u8 0, .int .u8 k, .int .i64 n, .str s, .ps t 26 c l, .int .u8 k2, .int .i64 n2, .str s2, .ps t2 26 c2 l2, .ps 0 58 ⟨true, true⟩ [], .ps 0 58 ⟨true, true⟩ [], .ps 0 58 ⟨true, true⟩ [], .ps 0 9 ⟨true, true⟩ []], .bool (mayName nm && oneAb ab && mayEx (.mk k n s (exsOf l)) && orNoEx (.mk k2 n2 s2 (exsOf l2)) && (noEx (.mk k2 n2 s2 (exsOf l2)) || (!decide (ab = 1) && !decide (ab = 32))))], []) := by
    rw [tab_hit]; simp only [sp139, hb, cond_true]
  have e2 : ∀ (k n : Int) (s : List UInt8) (t : Nat) (c : Cp) (l : List Row), tab (⟨139, sp139, told139 nt⟩ :: TS nt) 106 [.agg [.int .u8 k, .int .i64 n, .str s, .ps t 26 c l]] [] = some ([.bool (noEx (.mk k n s (exsOf l)))], []) := fun k n s t c l => rfl
  rw [f76o2_q]
  unfold f76o2 may2
  rw [e1]
  dsimp only [Option.bind_some, f76o2_J8, f76o2_J6, nth_zero, nth_1, nth_2, nth_3, nth_4, nth, toCells_agg, toCells_bool, toI_int, toS_str, toR_ps, toB_bool, AV.toTg, AV.toCp, AV.toCells, AV.toB, AV.toI, AV.toS, AV.toR]
  simp only [e2, Option.bind_some, nth_zero, toCells_bool, toB_bool, noEx0]
  generalize (mayName nm && oneAb ab && mayEx (.mk k n s (exsOf l)) && orNoEx (.mk k2 n2 s2 (exsOf l2)) && (noEx (.mk k2 n2 s2 (exsOf l2)) || (!decide (ab = 1) && !decide (ab = 32)))) = b0
  cases b0
  · rfl
  rcases Decidable.em (sec = []) with q_second | q_second
  rotate_left
  · simp [q_second]
  rcases Decidable.em (wh = 0) with q_what | q_what
  rotate_left
  · simp [q_second, q_what]
  rcases Decidable.em ((l3.length : Int) = 0) with q_then | q_then
  rotate_left
  · simp [q_second, q_what, q_then, Ne.symm q_then]
  rcases Decidable.em ((l4.length : Int) = 0) with q_else | q_else
  rotate_left
  · simp [q_second, q_what, q_then, q_else, Ne.symm q_else]
  rcases Decidable.em ((l5.length : Int) = 0) with q_code | q_code
  rotate_left
  · simp [q_second, q_what, q_then, q_else, q_code, Ne.symm q_code]
  rcases Decidable.em ((l6.length : Int) = 0) with q_with | q_with
  rotate_left
  · simp [q_second, q_what, q_then, q_else, q_code, q_with, Ne.symm q_with]
  simp [q_second, q_what, q_then, q_else, q_code, q_with]
def f76o4_J8 (nt : Nat) (X : Call') (n : Nat) (a13 : List Row) (a14 : List Row) (a15 : List Row) (a16 : List Row) (r32 : List AV × List AObj) (b38 : Bool) : Option (List AV × List AObj) :=
  (bif b38 then some (([AV.bool false], [])) else (bif decide ((↑(List.length (AV.toR (nth AV.u (AV.toCells (nth AV.u (Prod.fst r32) 0)) 13))) : Int) = (↑(List.length a13) : Int)) then (bif decide ((↑(List.length (AV.toR (nth AV.u (AV.toCells (nth AV.u (Prod.fst r32) 0)) 14))) : Int) = (↑(List.length a14) : Int)) then (bif decide ((↑(List.length (AV.toR (nth AV.u (AV.toCells (nth AV.u (Prod.fst r32) 0)) 15))) : Int) = (↑(List.length a15) : Int)) then some (([AV.bool (decide ((↑(List.length (AV.toR (nth AV.u (AV.toCells (nth AV.u (Prod.fst r32) 0)) 16))) : Int) = (↑(List.length a16) : Int)))], [])) else some (([AV.bool false], []))) else some (([AV.bool false], []))) else some (([AV.bool false], []))))
def f76o4_J6 (nt : Nat) (X : Call') (n : Nat) (a5 : Int) (a6 : Int) (a7 : List UInt8) (a8T : Nat) (a8C : Cp) (a8 : List Row) (a9 : Int) (a10 : Int) (a11 : List UInt8) (a12T : Nat) (a12C : Cp) (a12 : List Row) (a13 : List Row) (a14 : List Row) (a15 : List Row) (a16 : List Row) (r32 : List AV × List AObj) (b33 : Bool) : Option (List AV × List AObj) :=
  (bif b33 then some (([AV.bool false], [])) else ((X 106 [AV.agg [AV.int IntKind.u8 (AV.toI (nth AV.u (AV.toCells (nth AV.u (Prod.fst r32) 0)) 5)), AV.int IntKind.i64 (AV.toI (nth AV.u (AV.toCells (nth AV.u (Prod.fst r32) 0)) 6)), AV.str (AV.toS (nth AV.u (AV.toCells (nth AV.u (Prod.fst r32) 0)) 7)), AV.ps (AV.toTg (nth AV.u (AV.toCells (nth AV.u (Prod.fst r32) 0)) 8)) 26 (AV.toCp (nth AV.u (AV.toCells (nth AV.u (Prod.fst r32) 0)) 8)) (AV.toR (nth AV.u (AV.toCells (nth AV.u (Prod.fst r32) 0)) 8))]] []).bind fun r34 => ((X 106 [AV.agg [AV.int IntKind.u8 a5, AV.int IntKind.i64 a6, AV.str a7, AV.ps a8T 26 a8C a8]] []).bind fun r35 => (bif !AV.toB (nth AV.u (AV.toCells (nth AV.u (Prod.fst r34) 0)) 0) == AV.toB (nth AV.u (AV.toCells (nth AV.u (Prod.fst r35) 0)) 0) then f76o4_J8 nt X n a13 a14 a15 a16 r32 (true) else ((X 106 [AV.agg [AV.int IntKind.u8 (AV.toI (nth AV.u (AV.toCells (nth AV.u (Prod.fst r32) 0)) 9)), AV.int IntKind.i64 (AV.toI (nth AV.u (AV.toCells (nth AV.u (Prod.fst r32) 0)) 10)), AV.str (AV.toS (nth AV.u (AV.toCells (nth AV.u (Prod.fst r32) 0)) 11)), AV.ps (AV.toTg (nth AV.u (AV.toCells (nth AV.u (Prod.fst r32) 0)) 12)) 26 (AV.toCp (nth AV.u (AV.toCells (nth AV.u (Prod.fst r32) 0)) 12)) (AV.toR (nth AV.u (AV.toCells (nth AV.u (Prod.fst r32) 0)) 12))]] []).bind fun r36 => ((X 106 [AV.agg [AV.int IntKind.u8 a9, AV.int IntKind.i64 a10, AV.str a11, AV.ps a12T 26 a12C a12]] []).bind fun r37 => f76o4_J8 nt X n a13 a14 a15 a16 r32 (!AV.toB (nth AV.u (AV.toCells (nth AV.u (Prod.fst r36) 0)) 0) == AV.toB (nth AV.u (AV.toCells (nth AV.u (Prod.fst r37) 0)) 0))))))))
def f76o4 (nt : Nat) (X : Call') (n : Nat) (a1 : List UInt8) (a2 : List UInt8) (a3 : Int) (a4 : Int) (a5 : Int) (a6 : Int) (a7 : List UInt8) (a8T : Nat) (a8C : Cp) (a8 : List Row) (a9 : Int) (a10 : Int) (a11 : List UInt8) (a12T : Nat) (a12C : Cp) (a12 : List Row) (a13T : Nat) (a13C : Cp) (a13 : List Row) (a14T : Nat) (a14C : Cp) (a14 : List Row) (a15T : Nat) (a15C : Cp) (a15 : List Row) (a16T : Nat) (a16C : Cp) (a16 : List Row) : Option (List AV × List AObj) :=
  ((X 142 [AV.agg [AV.int IntKind.u8 4, AV.str a1, AV.str a2, AV.int IntKind.u8 a3, AV.int IntKind.u8 a4, AV.int IntKind.u8 a5, AV.int IntKind.i64 a6, AV.str a7, AV.ps a8T 26 a8C a8, AV.int IntKind.u8 a9, AV.int IntKind.i64 a10, AV.str a11, AV.ps a12T 26 a12C a12, AV.ps a13T 58 a13C a13, AV.ps a14T 58 a14C a14, AV.ps a15T 58 a15C a15, AV.ps a16T 9 a16C a16]] []).bind fun r32 => (bif !AV.toB (nth AV.u (AV.toCells (nth AV.u (Prod.fst r32) 1)) 0) then f76o4_J6 nt X n a5 a6 a7 a8T a8C a8 a9 a10 a11 a12T a12C a12 a13 a14 a15 a16 r32 (true) else (bif !decide (a1 = AV.toS (nth AV.u (AV.toCells (nth AV.u (Prod.fst r32) 0)) 1)) then f76o4_J6 nt X n a5 a6 a7 a8T a8C a8 a9 a10 a11 a12T a12C a12 a13 a14 a15 a16 r32 (true) else (bif !decide (a2 = AV.toS (nth AV.u (AV.toCells (nth AV.u (Prod.fst r32) 0)) 2)) then f76o4_J6 nt X n a5 a6 a7 a8T a8C a8 a9 a10 a11 a12T a12C a12 a13 a14 a15 a16 r32 (true) else (bif !decide (a3 = AV.toI (nth AV.u (AV.toCells (nth AV.u (Prod.fst r32) 0)) 3)) then f76o4_J6 nt X n a5 a6 a7 a8T a8C a8 a9 a10 a11 a12T a12C a12 a13 a14 a15 a16 r32 (true) else f76o4_J6 nt X n a5 a6 a7 a8T a8C a8 a9 a10 a11 a12T a12C a12 a13 a14 a15 a16 r32 (!decide (a4 = AV.toI (nth AV.u (AV.toCells (nth AV.u (Prod.fst r32) 0)) 4))))))))
theorem f76o4_q (nt : Nat) (X : Call') (n : Nat) (a1 : List UInt8) (a2 : List UInt8) (a3 : Int) (a4 : Int) (a5 : Int) (a6 : Int) (a7 : List UInt8) (a8T : Nat) (a8C : Cp) (a8 : List Row) (a9 : Int) (a10 : Int) (a11 : List UInt8) (a12T : Nat) (a12C : Cp) (a12 : List Row) (a13T : Nat) (a13C : Cp) (a13 : List Row) (a14T : Nat) (a14C : Cp) (a14 : List Row) (a15T : Nat) (a15C : Cp) (a15 : List Row) (a16T : Nat) (a16C : Cp) (a16 : List Row) : evBody ⟨L, F, nt, ovr 117 formsR X⟩ (lookV V 76) n Try.f76 (sig F 76).res [AV.agg [AV.int IntKind.u8 4, AV.str a1, AV.str a2, AV.int IntKind.u8 a3, AV.int IntKind.u8 a4, AV.int IntKind.u8 a5, AV.int IntKind.i64 a6, AV.str a7, AV.ps a8T 26 a8C a8, AV.int IntKind.u8 a9, AV.int IntKind.i64 a10, AV.str a11, AV.ps a12T 26 a12C a12, AV.ps a13T 58 a13C a13, AV.ps a14T 58 a14C a14, AV.ps a15T 58 a15C a15, AV.ps a16T 9 a16C a16]] [] = f76o4 nt X n a1 a2 a3 a4 a5 a6 a7 a8T a8C a8 a9 a10 a11 a12T a12C a12 a13T a13C a13 a14T a14C a14 a15T a15C a15 a16T a16C a16 := by kernel_rfl
theorem may4_fact {nt : Nat} {nm sec s s2 : List UInt8} {ab wh k n k2 n2 : Int} {t t2 t3 t4 t5 t6 : Nat} {c c2 c3 c4 c5 c6 : Cp} {l l2 l3 l4 l5 l6 : List Row} (hb : gS ab l l2 l6 = true) :
    Fact Try.prog L F nt 76 [.agg [.int .u8 4, .str nm, .str sec, .int .u8 ab, .int .u8 wh, .int .u8 k, .int .i64 n, .str s, .ps t 26 c l, .int .u8 k2, .int .i64 n2, .str s2, .ps t2 26 c2 l2, .ps t3 58 c3 l3, .ps t4 58 c4 l4, .ps t5 58 c5 l5, .ps t6 9 c6 l6]] [] [.bool (may4 nm sec ab wh (.mk k n s (exsOf l)) (.mk k2 n2 s2 (exsOf l2)) l3.length l4.length l5.length l6.length)] [] := by
  refine fact_ovr Try.func76 (fact117 nt) (⟨142, sp142, told142 nt⟩ :: TS nt) 1 ?_
  have e1 : tab (⟨142, sp142, told142 nt⟩ :: TS nt) 142 [.agg [.int .u8 4, .str nm, .str sec, .int .u8 ab, .int .u8 wh, .int .u8 k, .int .i64 n, .str s, .ps t 26 c l, .int .u8 k2, .int .i64 n2, .str s2, .ps t2 26 c2 l2, .ps t3 58 c3 l3, .ps t4 58 c4 l4, .ps t5 58 c5 l5, .ps t6 9 c6 l6]] [] = some ([.agg [.int .u8 0, .str nm, .str [], .int .u8 0, .int .u8 0, .int .u8 k, .int .i64 n, .str s, .ps t 26 c l, .int .u8 k2, .int .i64 n2, .str s2, .ps t2 26 c2 l2, .ps 0 58 ⟨true, true⟩ [], .ps 0 58 ⟨true, true⟩ [], .ps 0 58 ⟨true, true⟩ [], .ps 0 9 ⟨true, true⟩ []], .bool (mayName nm && mayEx (.mk k n s (exsOf l)) && mayEx (.mk k2 n2 s2 (exsOf l2)))], []) := by
    rw [tab_hit]; simp only [sp142, hb, cond_true]
  have e2 : ∀ (k n : Int) (s : List UInt8) (t : Nat) (c : Cp) (l : List Row), tab (⟨142, sp142, told142 nt⟩ :: TS nt) 106 [.agg [.int .u8 k, .int .i64 n, .str s, .ps t 26 c l]] [] = some ([.bool (noEx (.mk k n s (exsOf l)))], []) := fun k n s t c l => rfl
  rw [f76o4_q]
  unfold f76o4 may4
  rw [e1]
  dsimp only [Option.bind_some, f76o4_J8, f76o4_J6, nth_zero, nth_1, nth_2, nth_3, nth_4, nth, toCells_agg, toCells_bool, toI_int, toS_str, toR_ps, toB_bool, AV.toTg, AV.toCp, AV.toCells, AV.toB, AV.toI, AV.toS, AV.toR]
  simp only [e2, Option.bind_some, nth_zero, toCells_bool, toB_bool, noEx0]
  generalize (mayName nm && mayEx (.mk k n s (exsOf l)) && mayEx (.mk k2 n2 s2 (exsOf l2))) = b0
  cases b0
  · rfl
  rcases Decidable.em (sec = []) with q_second | q_second
  rotate_left
  · simp [q_second]
  rcases Decidable.em (ab = 0) with q_able | q_able
  rotate_left
  · simp [q_second, q_able]
  rcases Decidable.em (wh = 0) with q_what | q_what
  rotate_left
  · simp [q_second, q_able, q_what]
  rcases Decidable.em ((l3.length : Int) = 0) with q_then | q_then
  rotate_left
  · simp [q_second, q_able, q_what, q_then, Ne.symm q_then]
  rcases Decidable.em ((l4.length : Int) = 0) with q_else | q_else
  rotate_left
  · simp [q_second, q_able, q_what, q_then, q_else, Ne.symm q_else]
  rcases Decidable.em ((l5.length : Int) = 0) with q_code | q_code
  rotate_left
  · simp [q_second, q_able, q_what, q_then, q_else, q_code, Ne.symm q_code]
  rcases Decidable.em ((l6.length : Int) = 0) with q_with | q_with
  rotate_left
  · simp [q_second, q_able, q_what, q_then, q_else, q_code, q_with, Ne.symm q_with]
  simp [q_second, q_able, q_what, q_then, q_else, q_code, q_with]
def f76o5_J8 (nt : Nat) (X : Call') (n : Nat) (a13 : List Row) (a14 : List Row) (a15 : List Row) (a16 : List Row) (r32 : List AV × List AObj) (b38 : Bool) : Option (List AV × List AObj) :=
  (bif b38 then some (([AV.bool false], [])) else (bif decide ((↑(List.length (AV.toR (nth AV.u (AV.toCells (nth AV.u (Prod.fst r32) 0)) 13))) : Int) = (↑(List.length a13) : Int)) then (bif decide ((↑(List.length (AV.toR (nth AV.u (AV.toCells (nth AV.u (Prod.fst r32) 0)) 14))) : Int) = (↑(List.length a14) : Int)) then (bif decide ((↑(List.length (AV.toR (nth AV.u (AV.toCells (nth AV.u (Prod.fst r32) 0)) 15))) : Int) = (↑(List.length a15) : Int)) then some (([AV.bool (decide ((↑(List.length (AV.toR (nth AV.u (AV.toCells (nth AV.u (Prod.fst r32) 0)) 16))) : Int) = (↑(List.length a16) : Int)))], [])) else some (([AV.bool false], []))) else some (([AV.bool false], []))) else some (([AV.bool false], []))))
def f76o5_J6 (nt : Nat) (X : Call') (n : Nat) (a5 : Int) (a6 : Int) (a7 : List UInt8) (a8T : Nat) (a8C : Cp) (a8 : List Row) (a9 : Int) (a10 : Int) (a11 : List UInt8) (a12T : Nat) (a12C : Cp) (a12 : List Row) (a13 : List Row) (a14 : List Row) (a15 : List Row) (a16 : List Row) (r32 : List AV × List AObj) (b33 : Bool) : Option (List AV × List AObj) :=
  (bif b33 then some (([AV.bool false], [])) else ((X 106 [AV.agg [AV.int IntKind.u8 (AV.toI (nth AV.u (AV.toCells (nth AV.u (Prod.fst r32) 0)) 5)), AV.int IntKind.i64 (AV.toI (nth AV.u (AV.toCells (nth AV.u (Prod.fst r32) 0)) 6)), AV.str (AV.toS (nth AV.u (AV.toCells (nth AV.u (Prod.fst r32) 0)) 7)), AV.ps (AV.toTg (nth AV.u (AV.toCells (nth AV.u (Prod.fst r32) 0)) 8)) 26 (AV.toCp (nth AV.u (AV.toCells (nth AV.u (Prod.fst r32) 0)) 8)) (AV.toR (nth AV.u (AV.toCells (nth AV.u (Prod.fst r32) 0)) 8))]] []).bind fun r34 => ((X 106 [AV.agg [AV.int IntKind.u8 a5, AV.int IntKind.i64 a6, AV.str a7, AV.ps a8T 26 a8C a8]] []).bind fun r35 => (bif !AV.toB (nth AV.u (AV.toCells (nth AV.u (Prod.fst r34) 0)) 0) == AV.toB (nth AV.u (AV.toCells (nth AV.u (Prod.fst r35) 0)) 0) then f76o5_J8 nt X n a13 a14 a15 a16 r32 (true) else ((X 106 [AV.agg [AV.int IntKind.u8 (AV.toI (nth AV.u (AV.toCells (nth AV.u (Prod.fst r32) 0)) 9)), AV.int IntKind.i64 (AV.toI (nth AV.u (AV.toCells (nth AV.u (Prod.fst r32) 0)) 10)), AV.str (AV.toS (nth AV.u (AV.toCells (nth AV.u (Prod.fst r32) 0)) 11)), AV.ps (AV.toTg (nth AV.u (AV.toCells (nth AV.u (Prod.fst r32) 0)) 12)) 26 (AV.toCp (nth AV.u (AV.toCells (nth AV.u (Prod.fst r32) 0)) 12)) (AV.toR (nth AV.u (AV.toCells (nth AV.u (Prod.fst r32) 0)) 12))]] []).bind fun r36 => ((X 106 [AV.agg [AV.int IntKind.u8 a9, AV.int IntKind.i64 a10, AV.str a11, AV.ps a12T 26 a12C a12]] []).bind fun r37 => f76o5_J8 nt X n a13 a14 a15 a16 r32 (!AV.toB (nth AV.u (AV.toCells (nth AV.u (Prod.fst r36) 0)) 0) == AV.toB (nth AV.u (AV.toCells (nth AV.u (Prod.fst r37) 0)) 0))))))))
def f76o5 (nt : Nat) (X : Call') (n : Nat) (a1 : List UInt8) (a2 : List UInt8) (a3 : Int) (a4 : Int) (a5 : Int) (a6 : Int) (a7 : List UInt8) (a8T : Nat) (a8C : Cp) (a8 : List Row) (a9 : Int) (a10 : Int) (a11 : List UInt8) (a12T : Nat) (a12C : Cp) (a12 : List Row) (a13T : Nat) (a13C : Cp) (a13 : List Row) (a14T : Nat) (a14C : Cp) (a14 : List Row) (a15T : Nat) (a15C : Cp) (a15 : List Row) (a16T : Nat) (a16C : Cp) (a16 : List Row) : Option (List AV × List AObj) :=
  ((X 143 [AV.agg [AV.int IntKind.u8 5, AV.str a1, AV.str a2, AV.int IntKind.u8 a3, AV.int IntKind.u8 a4, AV.int IntKind.u8 a5, AV.int IntKind.i64 a6, AV.str a7, AV.ps a8T 26 a8C a8, AV.int IntKind.u8 a9, AV.int IntKind.i64 a10, AV.str a11, AV.ps a12T 26 a12C a12, AV.ps a13T 58 a13C a13, AV.ps a14T 58 a14C a14, AV.ps a15T 58 a15C a15, AV.ps a16T 9 a16C a16]] []).bind fun r32 => (bif !AV.toB (nth AV.u (AV.toCells (nth AV.u (Prod.fst r32) 1)) 0) then f76o5_J6 nt X n a5 a6 a7 a8T a8C a8 a9 a10 a11 a12T a12C a12 a13 a14 a15 a16 r32 (true) else (bif !decide (a1 = AV.toS (nth AV.u (AV.toCells (nth AV.u (Prod.fst r32) 0)) 1)) then f76o5_J6 nt X n a5 a6 a7 a8T a8C a8 a9 a10 a11 a12T a12C a12 a13 a14 a15 a16 r32 (true) else (bif !decide (a2 = AV.toS (nth AV.u (AV.toCells (nth AV.u (Prod.fst r32) 0)) 2)) then f76o5_J6 nt X n a5 a6 a7 a8T a8C a8 a9 a10 a11 a12T a12C a12 a13 a14 a15 a16 r32 (true) else (bif !decide (a3 = AV.toI (nth AV.u (AV.toCells (nth AV.u (Prod.fst r32) 0)) 3)) then f76o5_J6 nt X n a5 a6 a7 a8T a8C a8 a9 a10 a11 a12T a12C a12 a13 a14 a15 a16 r32 (true) else f76o5_J6 nt X n a5 a6 a7 a8T a8C a8 a9 a10 a11 a12T a12C a12 a13 a14 a15 a16 r32 (!decide (a4 = AV.toI (nth AV.u (AV.toCells (nth AV.u (Prod.fst r32) 0)) 4))))))))
theorem f76o5_q (nt : Nat) (X : Call') (n : Nat) (a1 : List UInt8) (a2 : List UInt8) (a3 : Int) (a4 : Int) (a5 : Int) (a6 : Int) (a7 : List UInt8) (a8T : Nat) (a8C : Cp) (a8 : List Row) (a9 : Int) (a10 : Int) (a11 : List UInt8) (a12T : Nat) (a12C : Cp) (a12 : List Row) (a13T : Nat) (a13C : Cp) (a13 : List Row) (a14T : Nat) (a14C : Cp) (a14 : List Row) (a15T : Nat) (a15C : Cp) (a15 : List Row) (a16T : Nat) (a16C : Cp) (a16 : List Row) : evBody ⟨L, F, nt, ovr 117 formsR X⟩ (lookV V 76) n Try.f76 (sig F 76).res [AV.agg [AV.int IntKind.u8 5, AV.str a1, AV.str a2, AV.int IntKind.u8 a3, AV.int IntKind.u8 a4, AV.int IntKind.u8 a5, AV.int IntKind.i64 a6, AV.str a7, AV.ps a8T 26 a8C a8, AV.int IntKind.u8 a9, AV.int IntKind.i64 a10, AV.str a11, AV.ps a12T 26 a12C a12, AV.ps a13T 58 a13C a13, AV.ps a14T 58 a14C a14, AV.ps a15T 58 a15C a15, AV.ps a16T 9 a16C a16]] [] = f76o5 nt X n a1 a2 a3 a4 a5 a6 a7 a8T a8C a8 a9 a10 a11 a12T a12C a12 a13T a13C a13 a14T a14C a14 a15T a15C a15 a16T a16C a16 := by kernel_rfl
theorem may5_fact {nt : Nat} {nm sec s s2 : List UInt8} {ab wh k n k2 n2 : Int} {t t2 t3 t4 t5 t6 : Nat} {c c2 c3 c4 c5 c6 : Cp} {l l2 l3 l4 l5 l6 : List Row} (hb : gS ab l l2 l6 = true) :
    Fact Try.prog L F nt 76 [.agg [.int .u8 5, .str nm, .str sec, .int .u8 ab, .int .u8 wh, .int .u8 k, .int .i64 n, .str s, .ps t 26 c l, .int .u8 k2, .int .i64 n2, .str s2, .ps t2 26 c2 l2, .ps t3 58 c3 l3, .ps t4 58 c4 l4, .ps t5 58 c5 l5, .ps t6 9 c6 l6]] [] [.bool (may5 nm sec ab wh (.mk k n s (exsOf l)) (.mk k2 n2 s2 (exsOf l2)) l3.length l4.length l5.length l6.length)] [] := by
  refine fact_ovr Try.func76 (fact117 nt) (⟨143, sp143, told143 nt⟩ :: TS nt) 1 ?_
  have e1 : tab (⟨143, sp143, told143 nt⟩ :: TS nt) 143 [.agg [.int .u8 5, .str nm, .str sec, .int .u8 ab, .int .u8 wh, .int .u8 k, .int .i64 n, .str s, .ps t 26 c l, .int .u8 k2, .int .i64 n2, .str s2, .ps t2 26 c2 l2, .ps t3 58 c3 l3, .ps t4 58 c4 l4, .ps t5 58 c5 l5, .ps t6 9 c6 l6]] [] = some ([.agg [.int .u8 0, .str [], .str [], .int .u8 0, .int .u8 0, .int .u8 k, .int .i64 n, .str s, .ps t 26 c l, .int .u8 k2, .int .i64 n2, .str s2, .ps t2 26 c2 l2, .ps t3 58 c3 l3, .ps t4 58 c4 l4, .ps 0 58 ⟨true, true⟩ [], .ps 0 9 ⟨true, true⟩ []], .bool (orNoEx (.mk k n s (exsOf l)) && orNoEx (.mk k2 n2 s2 (exsOf l2)))], []) := by
    rw [tab_hit]; simp only [sp143, hb, cond_true]
  have e2 : ∀ (k n : Int) (s : List UInt8) (t : Nat) (c : Cp) (l : List Row), tab (⟨143, sp143, told143 nt⟩ :: TS nt) 106 [.agg [.int .u8 k, .int .i64 n, .str s, .ps t 26 c l]] [] = some ([.bool (noEx (.mk k n s (exsOf l)))], []) := fun k n s t c l => rfl
  rw [f76o5_q]
  unfold f76o5 may5
  rw [e1]
  dsimp only [Option.bind_some, f76o5_J8, f76o5_J6, nth_zero, nth_1, nth_2, nth_3, nth_4, nth, toCells_agg, toCells_bool, toI_int, toS_str, toR_ps, toB_bool, AV.toTg, AV.toCp, AV.toCells, AV.toB, AV.toI, AV.toS, AV.toR]
  simp only [e2, Option.bind_some, nth_zero, toCells_bool, toB_bool, noEx0]
  generalize (orNoEx (.mk k n s (exsOf l)) && orNoEx (.mk k2 n2 s2 (exsOf l2))) = b0
  cases b0
  · rfl
  rcases Decidable.em (nm = []) with q_name | q_name
  rotate_left
  · simp [q_name]
  rcases Decidable.em (sec = []) with q_second | q_second
  rotate_left
  · simp [q_name, q_second]
  rcases Decidable.em (ab = 0) with q_able | q_able
  rotate_left
  · simp [q_name, q_second, q_able]
  rcases Decidable.em (wh = 0) with q_what | q_what
  rotate_left
  · simp [q_name, q_second, q_able, q_what]
  rcases Decidable.em ((l5.length : Int) = 0) with q_code | q_code
  rotate_left
  · simp [q_name, q_second, q_able, q_what, q_code, Ne.symm q_code]
  rcases Decidable.em ((l6.length : Int) = 0) with q_with | q_with
  rotate_left
  · simp [q_name, q_second, q_able, q_what, q_code, q_with, Ne.symm q_with]
  simp [q_name, q_second, q_able, q_what, q_code, q_with]
def f76o6_J8 (nt : Nat) (X : Call') (n : Nat) (a13 : List Row) (a14 : List Row) (a15 : List Row) (a16 : List Row) (r32 : List AV × List AObj) (b38 : Bool) : Option (List AV × List AObj) :=
  (bif b38 then some (([AV.bool false], [])) else (bif decide ((↑(List.length (AV.toR (nth AV.u (AV.toCells (nth AV.u (Prod.fst r32) 0)) 13))) : Int) = (↑(List.length a13) : Int)) then (bif decide ((↑(List.length (AV.toR (nth AV.u (AV.toCells (nth AV.u (Prod.fst r32) 0)) 14))) : Int) = (↑(List.length a14) : Int)) then (bif decide ((↑(List.length (AV.toR (nth AV.u (AV.toCells (nth AV.u (Prod.fst r32) 0)) 15))) : Int) = (↑(List.length a15) : Int)) then some (([AV.bool (decide ((↑(List.length (AV.toR (nth AV.u (AV.toCells (nth AV.u (Prod.fst r32) 0)) 16))) : Int) = (↑(List.length a16) : Int)))], [])) else some (([AV.bool false], []))) else some (([AV.bool false], []))) else some (([AV.bool false], []))))
def f76o6_J6 (nt : Nat) (X : Call') (n : Nat) (a5 : Int) (a6 : Int) (a7 : List UInt8) (a8T : Nat) (a8C : Cp) (a8 : List Row) (a9 : Int) (a10 : Int) (a11 : List UInt8) (a12T : Nat) (a12C : Cp) (a12 : List Row) (a13 : List Row) (a14 : List Row) (a15 : List Row) (a16 : List Row) (r32 : List AV × List AObj) (b33 : Bool) : Option (List AV × List AObj) :=
  (bif b33 then some (([AV.bool false], [])) else ((X 106 [AV.agg [AV.int IntKind.u8 (AV.toI (nth AV.u (AV.toCells (nth AV.u (Prod.fst r32) 0)) 5)), AV.int IntKind.i64 (AV.toI (nth AV.u (AV.toCells (nth AV.u (Prod.fst r32) 0)) 6)), AV.str (AV.toS (nth AV.u (AV.toCells (nth AV.u (Prod.fst r32) 0)) 7)), AV.ps (AV.toTg (nth AV.u (AV.toCells (nth AV.u (Prod.fst r32) 0)) 8)) 26 (AV.toCp (nth AV.u (AV.toCells (nth AV.u (Prod.fst r32) 0)) 8)) (AV.toR (nth AV.u (AV.toCells (nth AV.u (Prod.fst r32) 0)) 8))]] []).bind fun r34 => ((X 106 [AV.agg [AV.int IntKind.u8 a5, AV.int IntKind.i64 a6, AV.str a7, AV.ps a8T 26 a8C a8]] []).bind fun r35 => (bif !AV.toB (nth AV.u (AV.toCells (nth AV.u (Prod.fst r34) 0)) 0) == AV.toB (nth AV.u (AV.toCells (nth AV.u (Prod.fst r35) 0)) 0) then f76o6_J8 nt X n a13 a14 a15 a16 r32 (true) else ((X 106 [AV.agg [AV.int IntKind.u8 (AV.toI (nth AV.u (AV.toCells (nth AV.u (Prod.fst r32) 0)) 9)), AV.int IntKind.i64 (AV.toI (nth AV.u (AV.toCells (nth AV.u (Prod.fst r32) 0)) 10)), AV.str (AV.toS (nth AV.u (AV.toCells (nth AV.u (Prod.fst r32) 0)) 11)), AV.ps (AV.toTg (nth AV.u (AV.toCells (nth AV.u (Prod.fst r32) 0)) 12)) 26 (AV.toCp (nth AV.u (AV.toCells (nth AV.u (Prod.fst r32) 0)) 12)) (AV.toR (nth AV.u (AV.toCells (nth AV.u (Prod.fst r32) 0)) 12))]] []).bind fun r36 => ((X 106 [AV.agg [AV.int IntKind.u8 a9, AV.int IntKind.i64 a10, AV.str a11, AV.ps a12T 26 a12C a12]] []).bind fun r37 => f76o6_J8 nt X n a13 a14 a15 a16 r32 (!AV.toB (nth AV.u (AV.toCells (nth AV.u (Prod.fst r36) 0)) 0) == AV.toB (nth AV.u (AV.toCells (nth AV.u (Prod.fst r37) 0)) 0))))))))
def f76o6 (nt : Nat) (X : Call') (n : Nat) (a1 : List UInt8) (a2 : List UInt8) (a3 : Int) (a4 : Int) (a5 : Int) (a6 : Int) (a7 : List UInt8) (a8T : Nat) (a8C : Cp) (a8 : List Row) (a9 : Int) (a10 : Int) (a11 : List UInt8) (a12T : Nat) (a12C : Cp) (a12 : List Row) (a13T : Nat) (a13C : Cp) (a13 : List Row) (a14T : Nat) (a14C : Cp) (a14 : List Row) (a15T : Nat) (a15C : Cp) (a15 : List Row) (a16T : Nat) (a16C : Cp) (a16 : List Row) : Option (List AV × List AObj) :=
  ((X 144 [AV.agg [AV.int IntKind.u8 6, AV.str a1, AV.str a2, AV.int IntKind.u8 a3, AV.int IntKind.u8 a4, AV.int IntKind.u8 a5, AV.int IntKind.i64 a6, AV.str a7, AV.ps a8T 26 a8C a8, AV.int IntKind.u8 a9, AV.int IntKind.i64 a10, AV.str a11, AV.ps a12T 26 a12C a12, AV.ps a13T 58 a13C a13, AV.ps a14T 58 a14C a14, AV.ps a15T 58 a15C a15, AV.ps a16T 9 a16C a16]] []).bind fun r32 => (bif !AV.toB (nth AV.u (AV.toCells (nth AV.u (Prod.fst r32) 1)) 0) then f76o6_J6 nt X n a5 a6 a7 a8T a8C a8 a9 a10 a11 a12T a12C a12 a13 a14 a15 a16 r32 (true) else (bif !decide (a1 = AV.toS (nth AV.u (AV.toCells (nth AV.u (Prod.fst r32) 0)) 1)) then f76o6_J6 nt X n a5 a6 a7 a8T a8C a8 a9 a10 a11 a12T a12C a12 a13 a14 a15 a16 r32 (true) else (bif !decide (a2 = AV.toS (nth AV.u (AV.toCells (nth AV.u (Prod.fst r32) 0)) 2)) then f76o6_J6 nt X n a5 a6 a7 a8T a8C a8 a9 a10 a11 a12T a12C a12 a13 a14 a15 a16 r32 (true) else (bif !decide (a3 = AV.toI (nth AV.u (AV.toCells (nth AV.u (Prod.fst r32) 0)) 3)) then f76o6_J6 nt X n a5 a6 a7 a8T a8C a8 a9 a10 a11 a12T a12C a12 a13 a14 a15 a16 r32 (true) else f76o6_J6 nt X n a5 a6 a7 a8T a8C a8 a9 a10 a11 a12T a12C a12 a13 a14 a15 a16 r32 (!decide (a4 = AV.toI (nth AV.u (AV.toCells (nth AV.u (Prod.fst r32) 0)) 4))))))))
theorem f76o6_q (nt : Nat) (X : Call') (n : Nat) (a1 : List UInt8) (a2 : List UInt8) (a3 : Int) (a4 : Int) (a5 : Int) (a6 : Int) (a7 : List UInt8) (a8T : Nat) (a8C : Cp) (a8 : List Row) (a9 : Int) (a10 : Int) (a11 : List UInt8) (a12T : Nat) (a12C : Cp) (a12 : List Row) (a13T : Nat) (a13C : Cp) (a13 : List Row) (a14T : Nat) (a14C : Cp) (a14 : List Row) (a15T : Nat) (a15C : Cp) (a15 : List Row) (a16T : Nat) (a16C : Cp) (a16 : List Row) : evBody ⟨L, F, nt, ovr 117 formsR X⟩ (lookV V 76) n Try.f76 (sig F 76).res [AV.agg [AV.int IntKind.u8 6, AV.str a1, AV.str a2, AV.int IntKind.u8 a3, AV.int IntKind.u8 a4, AV.int IntKind.u8 a5, AV.int IntKind.i64 a6, AV.str a7, AV.ps a8T 26 a8C a8, AV.int IntKind.u8 a9, AV.int IntKind.i64 a10, AV.str a11, AV.ps a12T 26 a12C a12, AV.ps a13T 58 a13C a13, AV.ps a14T 58 a14C a14, AV.ps a15T 58 a15C a15, AV.ps a16T 9 a16C a16]] [] = f76o6 nt X n a1 a2 a3 a4 a5 a6 a7 a8T a8C a8 a9 a10 a11 a12T a12C a12 a13T a13C a13 a14T a14C a14 a15T a15C a15 a16T a16C a16 := by kernel_rfl
theorem may6_fact {nt : Nat} {nm sec s s2 : List UInt8} {ab wh k n k2 n2 : Int} {t t2 t3 t4 t5 t6 : Nat} {c c2 c3 c4 c5 c6 : Cp} {l l2 l3 l4 l5 l6 : List Row} (hb : gS ab l l2 l6 = true) :
    Fact Try.prog L F nt 76 [.agg [.int .u8 6, .str nm, .str sec, .int .u8 ab, .int .u8 wh, .int .u8 k, .int .i64 n, .str s, .ps t 26 c l, .int .u8 k2, .int .i64 n2, .str s2, .ps t2 26 c2 l2, .ps t3 58 c3 l3, .ps t4 58 c4 l4, .ps t5 58 c5 l5, .ps t6 9 c6 l6]] [] [.bool (may6 nm sec ab wh (.mk k n s (exsOf l)) (.mk k2 n2 s2 (exsOf l2)) l3.length l4.length l5.length l6.length)] [] := by
  refine fact_ovr Try.func76 (fact117 nt) (⟨144, sp144, told144 nt⟩ :: TS nt) 1 ?_
  have e1 : tab (⟨144, sp144, told144 nt⟩ :: TS nt) 144 [.agg [.int .u8 6, .str nm, .str sec, .int .u8 ab, .int .u8 wh, .int .u8 k, .int .i64 n, .str s, .ps t 26 c l, .int .u8 k2, .int .i64 n2, .str s2, .ps t2 26 c2 l2, .ps t3 58 c3 l3, .ps t4 58 c4 l4, .ps t5 58 c5 l5, .ps t6 9 c6 l6]] [] = some ([.agg [.int .u8 0, .str [], .str [], .int .u8 ab, .int .u8 0, .int .u8 k, .int .i64 n, .str s, .ps t 26 c l, .int .u8 0, .int .i64 0, .str [], .ps 0 26 ⟨true, true⟩ [], .ps t3 58 c3 l3, .ps t4 58 c4 l4, .ps 0 58 ⟨true, true⟩ [], .ps 0 9 ⟨true, true⟩ []], .bool (mayEx (.mk k n s (exsOf l)) && mayAb ab)], []) := by
    rw [tab_hit]; simp only [sp144, hb, cond_true]
  have e2 : ∀ (k n : Int) (s : List UInt8) (t : Nat) (c : Cp) (l : List Row), tab (⟨144, sp144, told144 nt⟩ :: TS nt) 106 [.agg [.int .u8 k, .int .i64 n, .str s, .ps t 26 c l]] [] = some ([.bool (noEx (.mk k n s (exsOf l)))], []) := fun k n s t c l => rfl
  rw [f76o6_q]
  unfold f76o6 may6
  rw [e1]
  dsimp only [Option.bind_some, f76o6_J8, f76o6_J6, nth_zero, nth_1, nth_2, nth_3, nth_4, nth, toCells_agg, toCells_bool, toI_int, toS_str, toR_ps, toB_bool, AV.toTg, AV.toCp, AV.toCells, AV.toB, AV.toI, AV.toS, AV.toR]
  simp only [e2, Option.bind_some, nth_zero, toCells_bool, toB_bool, noEx0]
  generalize (mayEx (.mk k n s (exsOf l)) && mayAb ab) = b0
  generalize noEx (.mk k2 n2 s2 (exsOf l2)) = b_B
  cases b0
  · rfl
  rcases Decidable.em (nm = []) with q_name | q_name
  rotate_left
  · simp [q_name]
  rcases Decidable.em (sec = []) with q_second | q_second
  rotate_left
  · simp [q_name, q_second]
  rcases Decidable.em (wh = 0) with q_what | q_what
  rotate_left
  · simp [q_name, q_second, q_what]
  cases b_B
  · simp [q_name, q_second, q_what]
  rcases Decidable.em ((l5.length : Int) = 0) with q_code | q_code
  rotate_left
  · simp [q_name, q_second, q_what, q_code, Ne.symm q_code]
  rcases Decidable.em ((l6.length : Int) = 0) with q_with | q_with
  rotate_left
  · simp [q_name, q_second, q_what, q_code, q_with, Ne.symm q_with]
  simp [q_name, q_second, q_what, q_code, q_with]
def f76o7_J8 (nt : Nat) (X : Call') (n : Nat) (a13 : List Row) (a14 : List Row) (a15 : List Row) (a16 : List Row) (r32 : List AV × List AObj) (b38 : Bool) : Option (List AV × List AObj) :=
  (bif b38 then some (([AV.bool false], [])) else (bif decide ((↑(List.length (AV.toR (nth AV.u (AV.toCells (nth AV.u (Prod.fst r32) 0)) 13))) : Int) = (↑(List.length a13) : Int)) then (bif decide ((↑(List.length (AV.toR (nth AV.u (AV.toCells (nth AV.u (Prod.fst r32) 0)) 14))) : Int) = (↑(List.length a14) : Int)) then (bif decide ((↑(List.length (AV.toR (nth AV.u (AV.toCells (nth AV.u (Prod.fst r32) 0)) 15))) : Int) = (↑(List.length a15) : Int)) then some (([AV.bool (decide ((↑(List.length (AV.toR (nth AV.u (AV.toCells (nth AV.u (Prod.fst r32) 0)) 16))) : Int) = (↑(List.length a16) : Int)))], [])) else some (([AV.bool false], []))) else some (([AV.bool false], []))) else some (([AV.bool false], []))))
def f76o7_J6 (nt : Nat) (X : Call') (n : Nat) (a5 : Int) (a6 : Int) (a7 : List UInt8) (a8T : Nat) (a8C : Cp) (a8 : List Row) (a9 : Int) (a10 : Int) (a11 : List UInt8) (a12T : Nat) (a12C : Cp) (a12 : List Row) (a13 : List Row) (a14 : List Row) (a15 : List Row) (a16 : List Row) (r32 : List AV × List AObj) (b33 : Bool) : Option (List AV × List AObj) :=
  (bif b33 then some (([AV.bool false], [])) else ((X 106 [AV.agg [AV.int IntKind.u8 (AV.toI (nth AV.u (AV.toCells (nth AV.u (Prod.fst r32) 0)) 5)), AV.int IntKind.i64 (AV.toI (nth AV.u (AV.toCells (nth AV.u (Prod.fst r32) 0)) 6)), AV.str (AV.toS (nth AV.u (AV.toCells (nth AV.u (Prod.fst r32) 0)) 7)), AV.ps (AV.toTg (nth AV.u (AV.toCells (nth AV.u (Prod.fst r32) 0)) 8)) 26 (AV.toCp (nth AV.u (AV.toCells (nth AV.u (Prod.fst r32) 0)) 8)) (AV.toR (nth AV.u (AV.toCells (nth AV.u (Prod.fst r32) 0)) 8))]] []).bind fun r34 => ((X 106 [AV.agg [AV.int IntKind.u8 a5, AV.int IntKind.i64 a6, AV.str a7, AV.ps a8T 26 a8C a8]] []).bind fun r35 => (bif !AV.toB (nth AV.u (AV.toCells (nth AV.u (Prod.fst r34) 0)) 0) == AV.toB (nth AV.u (AV.toCells (nth AV.u (Prod.fst r35) 0)) 0) then f76o7_J8 nt X n a13 a14 a15 a16 r32 (true) else ((X 106 [AV.agg [AV.int IntKind.u8 (AV.toI (nth AV.u (AV.toCells (nth AV.u (Prod.fst r32) 0)) 9)), AV.int IntKind.i64 (AV.toI (nth AV.u (AV.toCells (nth AV.u (Prod.fst r32) 0)) 10)), AV.str (AV.toS (nth AV.u (AV.toCells (nth AV.u (Prod.fst r32) 0)) 11)), AV.ps (AV.toTg (nth AV.u (AV.toCells (nth AV.u (Prod.fst r32) 0)) 12)) 26 (AV.toCp (nth AV.u (AV.toCells (nth AV.u (Prod.fst r32) 0)) 12)) (AV.toR (nth AV.u (AV.toCells (nth AV.u (Prod.fst r32) 0)) 12))]] []).bind fun r36 => ((X 106 [AV.agg [AV.int IntKind.u8 a9, AV.int IntKind.i64 a10, AV.str a11, AV.ps a12T 26 a12C a12]] []).bind fun r37 => f76o7_J8 nt X n a13 a14 a15 a16 r32 (!AV.toB (nth AV.u (AV.toCells (nth AV.u (Prod.fst r36) 0)) 0) == AV.toB (nth AV.u (AV.toCells (nth AV.u (Prod.fst r37) 0)) 0))))))))
def f76o7 (nt : Nat) (X : Call') (n : Nat) (a1 : List UInt8) (a2 : List UInt8) (a3 : Int) (a4 : Int) (a5 : Int) (a6 : Int) (a7 : List UInt8) (a8T : Nat) (a8C : Cp) (a8 : List Row) (a9 : Int) (a10 : Int) (a11 : List UInt8) (a12T : Nat) (a12C : Cp) (a12 : List Row) (a13T : Nat) (a13C : Cp) (a13 : List Row) (a14T : Nat) (a14C : Cp) (a14 : List Row) (a15T : Nat) (a15C : Cp) (a15 : List Row) (a16T : Nat) (a16C : Cp) (a16 : List Row) : Option (List AV × List AObj) :=
  ((X 146 [AV.agg [AV.int IntKind.u8 7, AV.str a1, AV.str a2, AV.int IntKind.u8 a3, AV.int IntKind.u8 a4, AV.int IntKind.u8 a5, AV.int IntKind.i64 a6, AV.str a7, AV.ps a8T 26 a8C a8, AV.int IntKind.u8 a9, AV.int IntKind.i64 a10, AV.str a11, AV.ps a12T 26 a12C a12, AV.ps a13T 58 a13C a13, AV.ps a14T 58 a14C a14, AV.ps a15T 58 a15C a15, AV.ps a16T 9 a16C a16]] []).bind fun r32 => (bif !AV.toB (nth AV.u (AV.toCells (nth AV.u (Prod.fst r32) 1)) 0) then f76o7_J6 nt X n a5 a6 a7 a8T a8C a8 a9 a10 a11 a12T a12C a12 a13 a14 a15 a16 r32 (true) else (bif !decide (a1 = AV.toS (nth AV.u (AV.toCells (nth AV.u (Prod.fst r32) 0)) 1)) then f76o7_J6 nt X n a5 a6 a7 a8T a8C a8 a9 a10 a11 a12T a12C a12 a13 a14 a15 a16 r32 (true) else (bif !decide (a2 = AV.toS (nth AV.u (AV.toCells (nth AV.u (Prod.fst r32) 0)) 2)) then f76o7_J6 nt X n a5 a6 a7 a8T a8C a8 a9 a10 a11 a12T a12C a12 a13 a14 a15 a16 r32 (true) else (bif !decide (a3 = AV.toI (nth AV.u (AV.toCells (nth AV.u (Prod.fst r32) 0)) 3)) then f76o7_J6 nt X n a5 a6 a7 a8T a8C a8 a9 a10 a11 a12T a12C a12 a13 a14 a15 a16 r32 (true) else f76o7_J6 nt X n a5 a6 a7 a8T a8C a8 a9 a10 a11 a12T a12C a12 a13 a14 a15 a16 r32 (!decide (a4 = AV.toI (nth AV.u (AV.toCells (nth AV.u (Prod.fst r32) 0)) 4))))))))
theorem f76o7_q (nt : Nat) (X : Call') (n : Nat) (a1 : List UInt8) (a2 : List UInt8) (a3 : Int) (a4 : Int) (a5 : Int) (a6 : Int) (a7 : List UInt8) (a8T : Nat) (a8C : Cp) (a8 : List Row) (a9 : Int) (a10 : Int) (a11 : List UInt8) (a12T : Nat) (a12C : Cp) (a12 : List Row) (a13T : Nat) (a13C : Cp) (a13 : List Row) (a14T : Nat) (a14C : Cp) (a14 : List Row) (a15T : Nat) (a15C : Cp) (a15 : List Row) (a16T : Nat) (a16C : Cp) (a16 : List Row) : evBody ⟨L, F, nt, ovr 117 formsR X⟩ (lookV V 76) n Try.f76 (sig F 76).res [AV.agg [AV.int IntKind.u8 7, AV.str a1, AV.str a2, AV.int IntKind.u8 a3, AV.int IntKind.u8 a4, AV.int IntKind.u8 a5, AV.int IntKind.i64 a6, AV.str a7, AV.ps a8T 26 a8C a8, AV.int IntKind.u8 a9, AV.int IntKind.i64 a10, AV.str a11, AV.ps a12T 26 a12C a12, AV.ps a13T 58 a13C a13, AV.ps a14T 58 a14C a14, AV.ps a15T 58 a15C a15, AV.ps a16T 9 a16C a16]] [] = f76o7 nt X n a1 a2 a3 a4 a5 a6 a7 a8T a8C a8 a9 a10 a11 a12T a12C a12 a13T a13C a13 a14T a14C a14 a15T a15C a15 a16T a16C a16 := by kernel_rfl
theorem may7_fact {nt : Nat} {nm sec s s2 : List UInt8} {ab wh k n k2 n2 : Int} {t t2 t3 t4 t5 t6 : Nat} {c c2 c3 c4 c5 c6 : Cp} {l l2 l3 l4 l5 l6 : List Row} (hb : gS ab l l2 l6 = true) :
    Fact Try.prog L F nt 76 [.agg [.int .u8 7, .str nm, .str sec, .int .u8 ab, .int .u8 wh, .int .u8 k, .int .i64 n, .str s, .ps t 26 c l, .int .u8 k2, .int .i64 n2, .str s2, .ps t2 26 c2 l2, .ps t3 58 c3 l3, .ps t4 58 c4 l4, .ps t5 58 c5 l5, .ps t6 9 c6 l6]] [] [.bool (may7 nm sec ab wh (.mk k n s (exsOf l)) (.mk k2 n2 s2 (exsOf l2)) l3.length l4.length l5.length l6.length)] [] := by
  refine fact_ovr Try.func76 (fact117 nt) (⟨146, sp146, told146 nt⟩ :: TS nt) 1 ?_
  have e1 : tab (⟨146, sp146, told146 nt⟩ :: TS nt) 146 [.agg [.int .u8 7, .str nm, .str sec, .int .u8 ab, .int .u8 wh, .int .u8 k, .int .i64 n, .str s, .ps t 26 c l, .int .u8 k2, .int .i64 n2, .str s2, .ps t2 26 c2 l2, .ps t3 58 c3 l3, .ps t4 58 c4 l4, .ps t5 58 c5 l5, .ps t6 9 c6 l6]] [] = some ([.agg [.int .u8 0, .str [], .str [], .int .u8 0, .int .u8 0, .int .u8 k, .int .i64 n, .str s, .ps t 26 c l, .int .u8 0, .int .i64 0, .str [], .ps 0 26 ⟨true, true⟩ [], .ps 0 58 ⟨true, true⟩ [], .ps 0 58 ⟨true, true⟩ [], .ps 0 58 ⟨true, true⟩ [], .ps 0 9 ⟨true, true⟩ []], .bool (orNoEx (.mk k n s (exsOf l)))], []) := by
    rw [tab_hit]; simp only [sp146, hb, cond_true]
  have e2 : ∀ (k n : Int) (s : List UInt8) (t : Nat) (c : Cp) (l : List Row), tab (⟨146, sp146, told146 nt⟩ :: TS nt) 106 [.agg [.int .u8 k, .int .i64 n, .str s, .ps t 26 c l]] [] = some ([.bool (noEx (.mk k n s (exsOf l)))], []) := fun k n s t c l => rfl
  rw [f76o7_q]
  unfold f76o7 may7
  rw [e1]
  dsimp only [Option.bind_some, f76o7_J8, f76o7_J6, nth_zero, nth_1, nth_2, nth_3, nth_4, nth, toCells_agg, toCells_bool, toI_int, toS_str, toR_ps, toB_bool, AV.toTg, AV.toCp, AV.toCells, AV.toB, AV.toI, AV.toS, AV.toR]
  simp only [e2, Option.bind_some, nth_zero, toCells_bool, toB_bool, noEx0]
  generalize (orNoEx (.mk k n s (exsOf l))) = b0
  generalize noEx (.mk k2 n2 s2 (exsOf l2)) = b_B
  cases b0
  · rfl
  rcases Decidable.em (nm = []) with q_name | q_name
  rotate_left
  · simp [q_name]
  rcases Decidable.em (sec = []) with q_second | q_second
  rotate_left
  · simp [q_name, q_second]
  rcases Decidable.em (ab = 0) with q_able | q_able
  rotate_left
  · simp [q_name, q_second, q_able]
  rcases Decidable.em (wh = 0) with q_what | q_what
  rotate_left
  · simp [q_name, q_second, q_able, q_what]
  cases b_B
  · simp [q_name, q_second, q_able, q_what]
  rcases Decidable.em ((l3.length : Int) = 0) with q_then | q_then
  rotate_left
  · simp [q_name, q_second, q_able, q_what, q_then, Ne.symm q_then]
  rcases Decidable.em ((l4.length : Int) = 0) with q_else | q_else
  rotate_left
  · simp [q_name, q_second, q_able, q_what, q_then, q_else, Ne.symm q_else]
  rcases Decidable.em ((l5.length : Int) = 0) with q_code | q_code
  rotate_left
  · simp [q_name, q_second, q_able, q_what, q_then, q_else, q_code, Ne.symm q_code]
  rcases Decidable.em ((l6.length : Int) = 0) with q_with | q_with
  rotate_left
  · simp [q_name, q_second, q_able, q_what, q_then, q_else, q_code, q_with, Ne.symm q_with]
  simp [q_name, q_second, q_able, q_what, q_then, q_else, q_code, q_with]
def f76o8_J8 (nt : Nat) (X : Call') (n : Nat) (a13 : List Row) (a14 : List Row) (a15 : List Row) (a16 : List Row) (r32 : List AV × List AObj) (b38 : Bool) : Option (List AV × List AObj) :=
  (bif b38 then some (([AV.bool false], [])) else (bif decide ((↑(List.length (AV.toR (nth AV.u (AV.toCells (nth AV.u (Prod.fst r32) 0)) 13))) : Int) = (↑(List.length a13) : Int)) then (bif decide ((↑(List.length (AV.toR (nth AV.u (AV.toCells (nth AV.u (Prod.fst r32) 0)) 14))) : Int) = (↑(List.length a14) : Int)) then (bif decide ((↑(List.length (AV.toR (nth AV.u (AV.toCells (nth AV.u (Prod.fst r32) 0)) 15))) : Int) = (↑(List.length a15) : Int)) then some (([AV.bool (decide ((↑(List.length (AV.toR (nth AV.u (AV.toCells (nth AV.u (Prod.fst r32) 0)) 16))) : Int) = (↑(List.length a16) : Int)))], [])) else some (([AV.bool false], []))) else some (([AV.bool false], []))) else some (([AV.bool false], []))))
def f76o8_J6 (nt : Nat) (X : Call') (n : Nat) (a5 : Int) (a6 : Int) (a7 : List UInt8) (a8T : Nat) (a8C : Cp) (a8 : List Row) (a9 : Int) (a10 : Int) (a11 : List UInt8) (a12T : Nat) (a12C : Cp) (a12 : List Row) (a13 : List Row) (a14 : List Row) (a15 : List Row) (a16 : List Row) (r32 : List AV × List AObj) (b33 : Bool) : Option (List AV × List AObj) :=
  (bif b33 then some (([AV.bool false], [])) else ((X 106 [AV.agg [AV.int IntKind.u8 (AV.toI (nth AV.u (AV.toCells (nth AV.u (Prod.fst r32) 0)) 5)), AV.int IntKind.i64 (AV.toI (nth AV.u (AV.toCells (nth AV.u (Prod.fst r32) 0)) 6)), AV.str (AV.toS (nth AV.u (AV.toCells (nth AV.u (Prod.fst r32) 0)) 7)), AV.ps (AV.toTg (nth AV.u (AV.toCells (nth AV.u (Prod.fst r32) 0)) 8)) 26 (AV.toCp (nth AV.u (AV.toCells (nth AV.u (Prod.fst r32) 0)) 8)) (AV.toR (nth AV.u (AV.toCells (nth AV.u (Prod.fst r32) 0)) 8))]] []).bind fun r34 => ((X 106 [AV.agg [AV.int IntKind.u8 a5, AV.int IntKind.i64 a6, AV.str a7, AV.ps a8T 26 a8C a8]] []).bind fun r35 => (bif !AV.toB (nth AV.u (AV.toCells (nth AV.u (Prod.fst r34) 0)) 0) == AV.toB (nth AV.u (AV.toCells (nth AV.u (Prod.fst r35) 0)) 0) then f76o8_J8 nt X n a13 a14 a15 a16 r32 (true) else ((X 106 [AV.agg [AV.int IntKind.u8 (AV.toI (nth AV.u (AV.toCells (nth AV.u (Prod.fst r32) 0)) 9)), AV.int IntKind.i64 (AV.toI (nth AV.u (AV.toCells (nth AV.u (Prod.fst r32) 0)) 10)), AV.str (AV.toS (nth AV.u (AV.toCells (nth AV.u (Prod.fst r32) 0)) 11)), AV.ps (AV.toTg (nth AV.u (AV.toCells (nth AV.u (Prod.fst r32) 0)) 12)) 26 (AV.toCp (nth AV.u (AV.toCells (nth AV.u (Prod.fst r32) 0)) 12)) (AV.toR (nth AV.u (AV.toCells (nth AV.u (Prod.fst r32) 0)) 12))]] []).bind fun r36 => ((X 106 [AV.agg [AV.int IntKind.u8 a9, AV.int IntKind.i64 a10, AV.str a11, AV.ps a12T 26 a12C a12]] []).bind fun r37 => f76o8_J8 nt X n a13 a14 a15 a16 r32 (!AV.toB (nth AV.u (AV.toCells (nth AV.u (Prod.fst r36) 0)) 0) == AV.toB (nth AV.u (AV.toCells (nth AV.u (Prod.fst r37) 0)) 0))))))))
def f76o8 (nt : Nat) (X : Call') (n : Nat) (a1 : List UInt8) (a2 : List UInt8) (a3 : Int) (a4 : Int) (a5 : Int) (a6 : Int) (a7 : List UInt8) (a8T : Nat) (a8C : Cp) (a8 : List Row) (a9 : Int) (a10 : Int) (a11 : List UInt8) (a12T : Nat) (a12C : Cp) (a12 : List Row) (a13T : Nat) (a13C : Cp) (a13 : List Row) (a14T : Nat) (a14C : Cp) (a14 : List Row) (a15T : Nat) (a15C : Cp) (a15 : List Row) (a16T : Nat) (a16C : Cp) (a16 : List Row) : Option (List AV × List AObj) :=
  ((X 147 [AV.agg [AV.int IntKind.u8 8, AV.str a1, AV.str a2, AV.int IntKind.u8 a3, AV.int IntKind.u8 a4, AV.int IntKind.u8 a5, AV.int IntKind.i64 a6, AV.str a7, AV.ps a8T 26 a8C a8, AV.int IntKind.u8 a9, AV.int IntKind.i64 a10, AV.str a11, AV.ps a12T 26 a12C a12, AV.ps a13T 58 a13C a13, AV.ps a14T 58 a14C a14, AV.ps a15T 58 a15C a15, AV.ps a16T 9 a16C a16]] []).bind fun r32 => (bif !AV.toB (nth AV.u (AV.toCells (nth AV.u (Prod.fst r32) 1)) 0) then f76o8_J6 nt X n a5 a6 a7 a8T a8C a8 a9 a10 a11 a12T a12C a12 a13 a14 a15 a16 r32 (true) else (bif !decide (a1 = AV.toS (nth AV.u (AV.toCells (nth AV.u (Prod.fst r32) 0)) 1)) then f76o8_J6 nt X n a5 a6 a7 a8T a8C a8 a9 a10 a11 a12T a12C a12 a13 a14 a15 a16 r32 (true) else (bif !decide (a2 = AV.toS (nth AV.u (AV.toCells (nth AV.u (Prod.fst r32) 0)) 2)) then f76o8_J6 nt X n a5 a6 a7 a8T a8C a8 a9 a10 a11 a12T a12C a12 a13 a14 a15 a16 r32 (true) else (bif !decide (a3 = AV.toI (nth AV.u (AV.toCells (nth AV.u (Prod.fst r32) 0)) 3)) then f76o8_J6 nt X n a5 a6 a7 a8T a8C a8 a9 a10 a11 a12T a12C a12 a13 a14 a15 a16 r32 (true) else f76o8_J6 nt X n a5 a6 a7 a8T a8C a8 a9 a10 a11 a12T a12C a12 a13 a14 a15 a16 r32 (!decide (a4 = AV.toI (nth AV.u (AV.toCells (nth AV.u (Prod.fst r32) 0)) 4))))))))
theorem f76o8_q (nt : Nat) (X : Call') (n : Nat) (a1 : List UInt8) (a2 : List UInt8) (a3 : Int) (a4 : Int) (a5 : Int) (a6 : Int) (a7 : List UInt8) (a8T : Nat) (a8C : Cp) (a8 : List Row) (a9 : Int) (a10 : Int) (a11 : List UInt8) (a12T : Nat) (a12C : Cp) (a12 : List Row) (a13T : Nat) (a13C : Cp) (a13 : List Row) (a14T : Nat) (a14C : Cp) (a14 : List Row) (a15T : Nat) (a15C : Cp) (a15 : List Row) (a16T : Nat) (a16C : Cp) (a16 : List Row) : evBody ⟨L, F, nt, ovr 117 formsR X⟩ (lookV V 76) n Try.f76 (sig F 76).res [AV.agg [AV.int IntKind.u8 8, AV.str a1, AV.str a2, AV.int IntKind.u8 a3, AV.int IntKind.u8 a4, AV.int IntKind.u8 a5, AV.int IntKind.i64 a6, AV.str a7, AV.ps a8T 26 a8C a8, AV.int IntKind.u8 a9, AV.int IntKind.i64 a10, AV.str a11, AV.ps a12T 26 a12C a12, AV.ps a13T 58 a13C a13, AV.ps a14T 58 a14C a14, AV.ps a15T 58 a15C a15, AV.ps a16T 9 a16C a16]] [] = f76o8 nt X n a1 a2 a3 a4 a5 a6 a7 a8T a8C a8 a9 a10 a11 a12T a12C a12 a13T a13C a13 a14T a14C a14 a15T a15C a15 a16T a16C a16 := by kernel_rfl
theorem may8_fact {nt : Nat} {nm sec s s2 : List UInt8} {ab wh k n k2 n2 : Int} {t t2 t3 t4 t5 t6 : Nat} {c c2 c3 c4 c5 c6 : Cp} {l l2 l3 l4 l5 l6 : List Row} (hb : gS ab l l2 l6 = true) :
    Fact Try.prog L F nt 76 [.agg [.int .u8 8, .str nm, .str sec, .int .u8 ab, .int .u8 wh, .int .u8 k, .int .i64 n, .str s, .ps t 26 c l, .int .u8 k2, .int .i64 n2, .str s2, .ps t2 26 c2 l2, .ps t3 58 c3 l3, .ps t4 58 c4 l4, .ps t5 58 c5 l5, .ps t6 9 c6 l6]] [] [.bool (may8 nm sec ab wh (.mk k n s (exsOf l)) (.mk k2 n2 s2 (exsOf l2)) l3.length l4.length l5.length l6.length)] [] := by
  refine fact_ovr Try.func76 (fact117 nt) (⟨147, sp147, told147 nt⟩ :: TS nt) 1 ?_
  have e1 : tab (⟨147, sp147, told147 nt⟩ :: TS nt) 147 [.agg [.int .u8 8, .str nm, .str sec, .int .u8 ab, .int .u8 wh, .int .u8 k, .int .i64 n, .str s, .ps t 26 c l, .int .u8 k2, .int .i64 n2, .str s2, .ps t2 26 c2 l2, .ps t3 58 c3 l3, .ps t4 58 c4 l4, .ps t5 58 c5 l5, .ps t6 9 c6 l6]] [] = some ([.agg [.int .u8 0, .str [], .str [], .int .u8 0, .int .u8 0, .int .u8 0, .int .i64 0, .str [], .ps 0 26 ⟨true, true⟩ [], .int .u8 0, .int .i64 0, .str [], .ps 0 26 ⟨true, true⟩ [], .ps 0 58 ⟨true, true⟩ [], .ps 0 58 ⟨true, true⟩ [], .ps 0 58 ⟨true, true⟩ [], .ps 0 9 ⟨true, true⟩ []], .bool (true)], []) := by
    rw [tab_hit]; simp only [sp147, hb, cond_true]
  have e2 : ∀ (k n : Int) (s : List UInt8) (t : Nat) (c : Cp) (l : List Row), tab (⟨147, sp147, told147 nt⟩ :: TS nt) 106 [.agg [.int .u8 k, .int .i64 n, .str s, .ps t 26 c l]] [] = some ([.bool (noEx (.mk k n s (exsOf l)))], []) := fun k n s t c l => rfl
  rw [f76o8_q]
  unfold f76o8 may8
  rw [e1]
  dsimp only [Option.bind_some, f76o8_J8, f76o8_J6, nth_zero, nth_1, nth_2, nth_3, nth_4, nth, toCells_agg, toCells_bool, toI_int, toS_str, toR_ps, toB_bool, AV.toTg, AV.toCp, AV.toCells, AV.toB, AV.toI, AV.toS, AV.toR]
  simp only [e2, Option.bind_some, nth_zero, toCells_bool, toB_bool, noEx0]
  generalize noEx (.mk k n s (exsOf l)) = b_A
  generalize noEx (.mk k2 n2 s2 (exsOf l2)) = b_B
  rcases Decidable.em (nm = []) with q_name | q_name
  rotate_left
  · simp [q_name]
  rcases Decidable.em (sec = []) with q_second | q_second
  rotate_left
  · simp [q_name, q_second]
  rcases Decidable.em (ab = 0) with q_able | q_able
  rotate_left
  · simp [q_name, q_second, q_able]
  rcases Decidable.em (wh = 0) with q_what | q_what
  rotate_left
  · simp [q_name, q_second, q_able, q_what]
  cases b_A
  · simp [q_name, q_second, q_able, q_what]
  cases b_B
  · simp [q_name, q_second, q_able, q_what]
  rcases Decidable.em ((l3.length : Int) = 0) with q_then | q_then
  rotate_left
  · simp [q_name, q_second, q_able, q_what, q_then, Ne.symm q_then]
  rcases Decidable.em ((l4.length : Int) = 0) with q_else | q_else
  rotate_left
  · simp [q_name, q_second, q_able, q_what, q_then, q_else, Ne.symm q_else]
  rcases Decidable.em ((l5.length : Int) = 0) with q_code | q_code
  rotate_left
  · simp [q_name, q_second, q_able, q_what, q_then, q_else, q_code, Ne.symm q_code]
  rcases Decidable.em ((l6.length : Int) = 0) with q_with | q_with
  rotate_left
  · simp [q_name, q_second, q_able, q_what, q_then, q_else, q_code, q_with, Ne.symm q_with]
  simp [q_name, q_second, q_able, q_what, q_then, q_else, q_code, q_with]
def f76o9_J8 (nt : Nat) (X : Call') (n : Nat) (a13 : List Row) (a14 : List Row) (a15 : List Row) (a16 : List Row) (r32 : List AV × List AObj) (b38 : Bool) : Option (List AV × List AObj) :=
  (bif b38 then some (([AV.bool false], [])) else (bif decide ((↑(List.length (AV.toR (nth AV.u (AV.toCells (nth AV.u (Prod.fst r32) 0)) 13))) : Int) = (↑(List.length a13) : Int)) then (bif decide ((↑(List.length (AV.toR (nth AV.u (AV.toCells (nth AV.u (Prod.fst r32) 0)) 14))) : Int) = (↑(List.length a14) : Int)) then (bif decide ((↑(List.length (AV.toR (nth AV.u (AV.toCells (nth AV.u (Prod.fst r32) 0)) 15))) : Int) = (↑(List.length a15) : Int)) then some (([AV.bool (decide ((↑(List.length (AV.toR (nth AV.u (AV.toCells (nth AV.u (Prod.fst r32) 0)) 16))) : Int) = (↑(List.length a16) : Int)))], [])) else some (([AV.bool false], []))) else some (([AV.bool false], []))) else some (([AV.bool false], []))))
def f76o9_J6 (nt : Nat) (X : Call') (n : Nat) (a5 : Int) (a6 : Int) (a7 : List UInt8) (a8T : Nat) (a8C : Cp) (a8 : List Row) (a9 : Int) (a10 : Int) (a11 : List UInt8) (a12T : Nat) (a12C : Cp) (a12 : List Row) (a13 : List Row) (a14 : List Row) (a15 : List Row) (a16 : List Row) (r32 : List AV × List AObj) (b33 : Bool) : Option (List AV × List AObj) :=
  (bif b33 then some (([AV.bool false], [])) else ((X 106 [AV.agg [AV.int IntKind.u8 (AV.toI (nth AV.u (AV.toCells (nth AV.u (Prod.fst r32) 0)) 5)), AV.int IntKind.i64 (AV.toI (nth AV.u (AV.toCells (nth AV.u (Prod.fst r32) 0)) 6)), AV.str (AV.toS (nth AV.u (AV.toCells (nth AV.u (Prod.fst r32) 0)) 7)), AV.ps (AV.toTg (nth AV.u (AV.toCells (nth AV.u (Prod.fst r32) 0)) 8)) 26 (AV.toCp (nth AV.u (AV.toCells (nth AV.u (Prod.fst r32) 0)) 8)) (AV.toR (nth AV.u (AV.toCells (nth AV.u (Prod.fst r32) 0)) 8))]] []).bind fun r34 => ((X 106 [AV.agg [AV.int IntKind.u8 a5, AV.int IntKind.i64 a6, AV.str a7, AV.ps a8T 26 a8C a8]] []).bind fun r35 => (bif !AV.toB (nth AV.u (AV.toCells (nth AV.u (Prod.fst r34) 0)) 0) == AV.toB (nth AV.u (AV.toCells (nth AV.u (Prod.fst r35) 0)) 0) then f76o9_J8 nt X n a13 a14 a15 a16 r32 (true) else ((X 106 [AV.agg [AV.int IntKind.u8 (AV.toI (nth AV.u (AV.toCells (nth AV.u (Prod.fst r32) 0)) 9)), AV.int IntKind.i64 (AV.toI (nth AV.u (AV.toCells (nth AV.u (Prod.fst r32) 0)) 10)), AV.str (AV.toS (nth AV.u (AV.toCells (nth AV.u (Prod.fst r32) 0)) 11)), AV.ps (AV.toTg (nth AV.u (AV.toCells (nth AV.u (Prod.fst r32) 0)) 12)) 26 (AV.toCp (nth AV.u (AV.toCells (nth AV.u (Prod.fst r32) 0)) 12)) (AV.toR (nth AV.u (AV.toCells (nth AV.u (Prod.fst r32) 0)) 12))]] []).bind fun r36 => ((X 106 [AV.agg [AV.int IntKind.u8 a9, AV.int IntKind.i64 a10, AV.str a11, AV.ps a12T 26 a12C a12]] []).bind fun r37 => f76o9_J8 nt X n a13 a14 a15 a16 r32 (!AV.toB (nth AV.u (AV.toCells (nth AV.u (Prod.fst r36) 0)) 0) == AV.toB (nth AV.u (AV.toCells (nth AV.u (Prod.fst r37) 0)) 0))))))))
def f76o9 (nt : Nat) (X : Call') (n : Nat) (a1 : List UInt8) (a2 : List UInt8) (a3 : Int) (a4 : Int) (a5 : Int) (a6 : Int) (a7 : List UInt8) (a8T : Nat) (a8C : Cp) (a8 : List Row) (a9 : Int) (a10 : Int) (a11 : List UInt8) (a12T : Nat) (a12C : Cp) (a12 : List Row) (a13T : Nat) (a13C : Cp) (a13 : List Row) (a14T : Nat) (a14C : Cp) (a14 : List Row) (a15T : Nat) (a15C : Cp) (a15 : List Row) (a16T : Nat) (a16C : Cp) (a16 : List Row) : Option (List AV × List AObj) :=
  ((X 148 [AV.agg [AV.int IntKind.u8 9, AV.str a1, AV.str a2, AV.int IntKind.u8 a3, AV.int IntKind.u8 a4, AV.int IntKind.u8 a5, AV.int IntKind.i64 a6, AV.str a7, AV.ps a8T 26 a8C a8, AV.int IntKind.u8 a9, AV.int IntKind.i64 a10, AV.str a11, AV.ps a12T 26 a12C a12, AV.ps a13T 58 a13C a13, AV.ps a14T 58 a14C a14, AV.ps a15T 58 a15C a15, AV.ps a16T 9 a16C a16]] []).bind fun r32 => (bif !AV.toB (nth AV.u (AV.toCells (nth AV.u (Prod.fst r32) 1)) 0) then f76o9_J6 nt X n a5 a6 a7 a8T a8C a8 a9 a10 a11 a12T a12C a12 a13 a14 a15 a16 r32 (true) else (bif !decide (a1 = AV.toS (nth AV.u (AV.toCells (nth AV.u (Prod.fst r32) 0)) 1)) then f76o9_J6 nt X n a5 a6 a7 a8T a8C a8 a9 a10 a11 a12T a12C a12 a13 a14 a15 a16 r32 (true) else (bif !decide (a2 = AV.toS (nth AV.u (AV.toCells (nth AV.u (Prod.fst r32) 0)) 2)) then f76o9_J6 nt X n a5 a6 a7 a8T a8C a8 a9 a10 a11 a12T a12C a12 a13 a14 a15 a16 r32 (true) else (bif !decide (a3 = AV.toI (nth AV.u (AV.toCells (nth AV.u (Prod.fst r32) 0)) 3)) then f76o9_J6 nt X n a5 a6 a7 a8T a8C a8 a9 a10 a11 a12T a12C a12 a13 a14 a15 a16 r32 (true) else f76o9_J6 nt X n a5 a6 a7 a8T a8C a8 a9 a10 a11 a12T a12C a12 a13 a14 a15 a16 r32 (!decide (a4 = AV.toI (nth AV.u (AV.toCells (nth AV.u (Prod.fst r32) 0)) 4))))))))
theorem f76o9_q (nt : Nat) (X : Call') (n : Nat) (a1 : List UInt8) (a2 : List UInt8) (a3 : Int) (a4 : Int) (a5 : Int) (a6 : Int) (a7 : List UInt8) (a8T : Nat) (a8C : Cp) (a8 : List Row) (a9 : Int) (a10 : Int) (a11 : List UInt8) (a12T : Nat) (a12C : Cp) (a12 : List Row) (a13T : Nat) (a13C : Cp) (a13 : List Row) (a14T : Nat) (a14C : Cp) (a14 : List Row) (a15T : Nat) (a15C : Cp) (a15 : List Row) (a16T : Nat) (a16C : Cp) (a16 : List Row) : evBody ⟨L, F, nt, ovr 117 formsR X⟩ (lookV V 76) n Try.f76 (sig F 76).res [AV.agg [AV.int IntKind.u8 9, AV.str a1, AV.str a2, AV.int IntKind.u8 a3, AV.int IntKind.u8 a4, AV.int IntKind.u8 a5, AV.int IntKind.i64 a6, AV.str a7, AV.ps a8T 26 a8C a8, AV.int IntKind.u8 a9, AV.int IntKind.i64 a10, AV.str a11, AV.ps a12T 26 a12C a12, AV.ps a13T 58 a13C a13, AV.ps a14T 58 a14C a14, AV.ps a15T 58 a15C a15, AV.ps a16T 9 a16C a16]] [] = f76o9 nt X n a1 a2 a3 a4 a5 a6 a7 a8T a8C a8 a9 a10 a11 a12T a12C a12 a13T a13C a13 a14T a14C a14 a15T a15C a15 a16T a16C a16 := by kernel_rfl
theorem may9_fact {nt : Nat} {nm sec s s2 : List UInt8} {ab wh k n k2 n2 : Int} {t t2 t3 t4 t5 t6 : Nat} {c c2 c3 c4 c5 c6 : Cp} {l l2 l3 l4 l5 l6 : List Row} (hb : gS ab l l2 l6 = true) :
    Fact Try.prog L F nt 76 [.agg [.int .u8 9, .str nm, .str sec, .int .u8 ab, .int .u8 wh, .int .u8 k, .int .i64 n, .str s, .ps t 26 c l, .int .u8 k2, .int .i64 n2, .str s2, .ps t2 26 c2 l2, .ps t3 58 c3 l3, .ps t4 58 c4 l4, .ps t5 58 c5 l5, .ps t6 9 c6 l6]] [] [.bool (may9 nm sec ab wh (.mk k n s (exsOf l)) (.mk k2 n2 s2 (exsOf l2)) l3.length l4.length l5.length l6.length)] [] := by
  refine fact_ovr Try.func76 (fact117 nt) (⟨148, sp148, told148 nt⟩ :: TS nt) 1 ?_
  have e1 : tab (⟨148, sp148, told148 nt⟩ :: TS nt) 148 [.agg [.int .u8 9, .str nm, .str sec, .int .u8 ab, .int .u8 wh, .int .u8 k, .int .i64 n, .str s, .ps t 26 c l, .int .u8 k2, .int .i64 n2, .str s2, .ps t2 26 c2 l2, .ps t3 58 c3 l3, .ps t4 58 c4 l4, .ps t5 58 c5 l5, .ps t6 9 c6 l6]] [] = some ([.agg [.int .u8 0, .str nm, .str [], .int .u8 0, .int .u8 0, .int .u8 k, .int .i64 n, .str s, .ps t 26 c l, .int .u8 0, .int .i64 0, .str [], .ps 0 26 ⟨true, true⟩ [], .ps 0 58 ⟨true, true⟩ [], .ps 0 58 ⟨true, true⟩ [], .ps 0 58 ⟨true, true⟩ [], .ps 0 9 ⟨true, true⟩ []], .bool (mayName nm && mayEx (.mk k n s (exsOf l)))], []) := by
    rw [tab_hit]; simp only [sp148, hb, cond_true]
  have e2 : ∀ (k n : Int) (s : List UInt8) (t : Nat) (c : Cp) (l : List Row), tab (⟨148, sp148, told148 nt⟩ :: TS nt) 106 [.agg [.int .u8 k, .int .i64 n, .str s, .ps t 26 c l]] [] = some ([.bool (noEx (.mk k n s (exsOf l)))], []) := fun k n s t c l => rfl
  rw [f76o9_q]
  unfold f76o9 may9
  rw [e1]
  dsimp only [Option.bind_some, f76o9_J8, f76o9_J6, nth_zero, nth_1, nth_2, nth_3, nth_4, nth, toCells_agg, toCells_bool, toI_int, toS_str, toR_ps, toB_bool, AV.toTg, AV.toCp, AV.toCells, AV.toB, AV.toI, AV.toS, AV.toR]
  simp only [e2, Option.bind_some, nth_zero, toCells_bool, toB_bool, noEx0]
  generalize (mayName nm && mayEx (.mk k n s (exsOf l))) = b0
  generalize noEx (.mk k2 n2 s2 (exsOf l2)) = b_B
  cases b0
  · rfl
  rcases Decidable.em (sec = []) with q_second | q_second
  rotate_left
  · simp [q_second]
  rcases Decidable.em (ab = 0) with q_able | q_able
  rotate_left
  · simp [q_second, q_able]
  rcases Decidable.em (wh = 0) with q_what | q_what
  rotate_left
  · simp [q_second, q_able, q_what]
  cases b_B
  · simp [q_second, q_able, q_what]
  rcases Decidable.em ((l3.length : Int) = 0) with q_then | q_then
  rotate_left
  · simp [q_second, q_able, q_what, q_then, Ne.symm q_then]
  rcases Decidable.em ((l4.length : Int) = 0) with q_else | q_else
  rotate_left
  · simp [q_second, q_able, q_what, q_then, q_else, Ne.symm q_else]
  rcases Decidable.em ((l5.length : Int) = 0) with q_code | q_code
  rotate_left
  · simp [q_second, q_able, q_what, q_then, q_else, q_code, Ne.symm q_code]
  rcases Decidable.em ((l6.length : Int) = 0) with q_with | q_with
  rotate_left
  · simp [q_second, q_able, q_what, q_then, q_else, q_code, q_with, Ne.symm q_with]
  simp [q_second, q_able, q_what, q_then, q_else, q_code, q_with]
end Go.Ev.T
