/- Function 76 at a Make. -/
import Derived.Test.YtljiamlnpmhpmaaF141
import Derived.Test.YtljiamlnpmhpmaaF76
set_option linter.unusedVariables false
set_option linter.unusedSimpArgs false
noncomputable section
namespace Go.Ev
def may3 (nm sec : List UInt8) (ab wh : Int) (a b : Ex) (n3 n4 n5 n6 : Nat) (ws : List (List UInt8)) : Bool := bif whc1 wh then (mayName nm && orNoEx a) && decide (sec = []) && decide (ab = 0) && noEx b && decide ((0 : Int) = (n3 : Int)) && decide ((0 : Int) = (n4 : Int)) && decide ((0 : Int) = (n5 : Int)) && decide ((0 : Int) = (n6 : Int)) else bif whc2 wh then (mayName nm) && decide (sec = []) && decide (ab = 0) && noEx a && noEx b && decide ((0 : Int) = (n3 : Int)) && decide ((0 : Int) = (n4 : Int)) && decide ((0 : Int) = (n5 : Int)) && decide ((0 : Int) = (n6 : Int)) else bif whc3 wh then (mayName nm && mayEx a && mayAb ab) && decide (sec = []) && noEx b && decide ((0 : Int) = (n3 : Int)) && decide ((0 : Int) = (n4 : Int)) && decide ((0 : Int) = (n5 : Int)) && decide ((0 : Int) = (n6 : Int)) else bif whc4 wh then (mayName nm && mayEx a && mayName sec && !decide (sec = nm)) && decide (ab = 0) && noEx b && decide ((0 : Int) = (n3 : Int)) && decide ((0 : Int) = (n4 : Int)) && decide ((0 : Int) = (n5 : Int)) && decide ((0 : Int) = (n6 : Int)) else bif whc5 wh then (mayName nm && mayName sec && !decide (sec = nm)) && decide (ab = 0) && noEx a && noEx b && decide ((0 : Int) = (n3 : Int)) && decide ((0 : Int) = (n4 : Int)) && decide ((0 : Int) = (n5 : Int)) && decide ((0 : Int) = (n6 : Int)) else bif whc6 wh then (mayName nm && decide ((ws.length : Int) ≤ 64) && ws.all mayName && !twice ws) && decide (sec = []) && decide (ab = 0) && noEx a && noEx b && decide ((0 : Int) = (n3 : Int)) && decide ((0 : Int) = (n4 : Int)) else (false) && decide (sec = []) && decide (ab = 0) && noEx a && noEx b && decide ((0 : Int) = (n3 : Int)) && decide ((0 : Int) = (n4 : Int)) && decide ((0 : Int) = (n5 : Int)) && decide ((0 : Int) = (n6 : Int))
end Go.Ev
namespace Go.Ev.T
open Go Go.Ev Go.Proofs
def f76o3_J8 (nt : Nat) (X : Call') (n : Nat) (a13 : List Row) (a14 : List Row) (a15 : List Row) (a16 : List Row) (r32 : List AV × List AObj) (b38 : Bool) : Option (List AV × List AObj) :=
  (bif b38 then some (([AV.bool false], [])) else (bif decide ((↑(List.length (AV.toR (nth AV.u (AV.toCells (nth AV.u (Prod.fst r32) 0)) 13))) : Int) = (↑(List.length a13) : Int)) then (bif decide ((↑(List.length (AV.toR (nth AV.u (AV.toCells (nth AV.u (Prod.fst r32) 0)) 14))) : Int) = (↑(List.length a14) : Int)) then (bif decide ((↑(List.length (AV.toR (nth AV.u (AV.toCells (nth AV.u (Prod.fst r32) 0)) 15))) : Int) = (↑(List.length a15) : Int)) then some (([AV.bool (decide ((↑(List.length (AV.toR (nth AV.u (AV.toCells (nth AV.u (Prod.fst r32) 0)) 16))) : Int) = (↑(List.length a16) : Int)))], [])) else some (([AV.bool false], []))) else some (([AV.bool false], []))) else some (([AV.bool false], []))))
def f76o3_J6 (nt : Nat) (X : Call') (n : Nat) (a5 : Int) (a6 : Int) (a7 : List UInt8) (a8T : Nat) (a8C : Cp) (a8 : List Row) (a9 : Int) (a10 : Int) (a11 : List UInt8) (a12T : Nat) (a12C : Cp) (a12 : List Row) (a13 : List Row) (a14 : List Row) (a15 : List Row) (a16 : List Row) (r32 : List AV × List AObj) (b33 : Bool) : Option (List AV × List AObj) :=
  (bif b33 then some (([AV.bool false], [])) else ((X 106 [AV.agg [AV.int IntKind.u8 (AV.toI (nth AV.u (AV.toCells (nth AV.u (Prod.fst r32) 0)) 5)), AV.int IntKind.i64 (AV.toI (nth AV.u (AV.toCells (nth AV.u (Prod.fst r32) 0)) 6)), AV.str (AV.toS (nth AV.u (AV.toCells (nth AV.u (Prod.fst r32) 0)) 7)), AV.ps (AV.toTg (nth AV.u (AV.toCells (nth AV.u (Prod.fst r32) 0)) 8)) 26 (AV.toCp (nth AV.u (AV.toCells (nth AV.u (Prod.fst r32) 0)) 8)) (AV.toR (nth AV.u (AV.toCells (nth AV.u (Prod.fst r32) 0)) 8))]] []).bind fun r34 => ((X 106 [AV.agg [AV.int IntKind.u8 a5, AV.int IntKind.i64 a6, AV.str a7, AV.ps a8T 26 a8C a8]] []).bind fun r35 => (bif !AV.toB (nth AV.u (AV.toCells (nth AV.u (Prod.fst r34) 0)) 0) == AV.toB (nth AV.u (AV.toCells (nth AV.u (Prod.fst r35) 0)) 0) then f76o3_J8 nt X n a13 a14 a15 a16 r32 (true) else ((X 106 [AV.agg [AV.int IntKind.u8 (AV.toI (nth AV.u (AV.toCells (nth AV.u (Prod.fst r32) 0)) 9)), AV.int IntKind.i64 (AV.toI (nth AV.u (AV.toCells (nth AV.u (Prod.fst r32) 0)) 10)), AV.str (AV.toS (nth AV.u (AV.toCells (nth AV.u (Prod.fst r32) 0)) 11)), AV.ps (AV.toTg (nth AV.u (AV.toCells (nth AV.u (Prod.fst r32) 0)) 12)) 26 (AV.toCp (nth AV.u (AV.toCells (nth AV.u (Prod.fst r32) 0)) 12)) (AV.toR (nth AV.u (AV.toCells (nth AV.u (Prod.fst r32) 0)) 12))]] []).bind fun r36 => ((X 106 [AV.agg [AV.int IntKind.u8 a9, AV.int IntKind.i64 a10, AV.str a11, AV.ps a12T 26 a12C a12]] []).bind fun r37 => f76o3_J8 nt X n a13 a14 a15 a16 r32 (!AV.toB (nth AV.u (AV.toCells (nth AV.u (Prod.fst r36) 0)) 0) == AV.toB (nth AV.u (AV.toCells (nth AV.u (Prod.fst r37) 0)) 0))))))))
def f76o3 (nt : Nat) (X : Call') (n : Nat) (a1 : List UInt8) (a2 : List UInt8) (a3 : Int) (a4 : Int) (a5 : Int) (a6 : Int) (a7 : List UInt8) (a8T : Nat) (a8C : Cp) (a8 : List Row) (a9 : Int) (a10 : Int) (a11 : List UInt8) (a12T : Nat) (a12C : Cp) (a12 : List Row) (a13T : Nat) (a13C : Cp) (a13 : List Row) (a14T : Nat) (a14C : Cp) (a14 : List Row) (a15T : Nat) (a15C : Cp) (a15 : List Row) (a16T : Nat) (a16C : Cp) (a16 : List Row) : Option (List AV × List AObj) :=
  ((X 141 [AV.agg [AV.int IntKind.u8 3, AV.str a1, AV.str a2, AV.int IntKind.u8 a3, AV.int IntKind.u8 a4, AV.int IntKind.u8 a5, AV.int IntKind.i64 a6, AV.str a7, AV.ps a8T 26 a8C a8, AV.int IntKind.u8 a9, AV.int IntKind.i64 a10, AV.str a11, AV.ps a12T 26 a12C a12, AV.ps a13T 58 a13C a13, AV.ps a14T 58 a14C a14, AV.ps a15T 58 a15C a15, AV.ps a16T 9 a16C a16]] []).bind fun r32 => (bif !AV.toB (nth AV.u (AV.toCells (nth AV.u (Prod.fst r32) 1)) 0) then f76o3_J6 nt X n a5 a6 a7 a8T a8C a8 a9 a10 a11 a12T a12C a12 a13 a14 a15 a16 r32 (true) else (bif !decide (a1 = AV.toS (nth AV.u (AV.toCells (nth AV.u (Prod.fst r32) 0)) 1)) then f76o3_J6 nt X n a5 a6 a7 a8T a8C a8 a9 a10 a11 a12T a12C a12 a13 a14 a15 a16 r32 (true) else (bif !decide (a2 = AV.toS (nth AV.u (AV.toCells (nth AV.u (Prod.fst r32) 0)) 2)) then f76o3_J6 nt X n a5 a6 a7 a8T a8C a8 a9 a10 a11 a12T a12C a12 a13 a14 a15 a16 r32 (true) else (bif !decide (a3 = AV.toI (nth AV.u (AV.toCells (nth AV.u (Prod.fst r32) 0)) 3)) then f76o3_J6 nt X n a5 a6 a7 a8T a8C a8 a9 a10 a11 a12T a12C a12 a13 a14 a15 a16 r32 (true) else f76o3_J6 nt X n a5 a6 a7 a8T a8C a8 a9 a10 a11 a12T a12C a12 a13 a14 a15 a16 r32 (!decide (a4 = AV.toI (nth AV.u (AV.toCells (nth AV.u (Prod.fst r32) 0)) 4))))))))
theorem f76o3_q (nt : Nat) (X : Call') (n : Nat) (a1 : List UInt8) (a2 : List UInt8) (a3 : Int) (a4 : Int) (a5 : Int) (a6 : Int) (a7 : List UInt8) (a8T : Nat) (a8C : Cp) (a8 : List Row) (a9 : Int) (a10 : Int) (a11 : List UInt8) (a12T : Nat) (a12C : Cp) (a12 : List Row) (a13T : Nat) (a13C : Cp) (a13 : List Row) (a14T : Nat) (a14C : Cp) (a14 : List Row) (a15T : Nat) (a15C : Cp) (a15 : List Row) (a16T : Nat) (a16C : Cp) (a16 : List Row) : evBody ⟨L, F, nt, ovr 117 formsR X⟩ (lookV V 76) n Try.f76 (sig F 76).res [AV.agg [AV.int IntKind.u8 3, AV.str a1, AV.str a2, AV.int IntKind.u8 a3, AV.int IntKind.u8 a4, AV.int IntKind.u8 a5, AV.int IntKind.i64 a6, AV.str a7, AV.ps a8T 26 a8C a8, AV.int IntKind.u8 a9, AV.int IntKind.i64 a10, AV.str a11, AV.ps a12T 26 a12C a12, AV.ps a13T 58 a13C a13, AV.ps a14T 58 a14C a14, AV.ps a15T 58 a15C a15, AV.ps a16T 9 a16C a16]] [] = f76o3 nt X n a1 a2 a3 a4 a5 a6 a7 a8T a8C a8 a9 a10 a11 a12T a12C a12 a13T a13C a13 a14T a14C a14 a15T a15C a15 a16T a16C a16 := by kernel_rfl
theorem may3c1 {nt : Nat} {nm sec s s2 : List UInt8} {ab wh k n k2 n2 : Int} {t t2 t3 t4 t5 t6 : Nat} {c c2 c3 c4 c5 c6 : Cp} {l l2 l3 l4 l5 l6 : List Row} (hb : gS ab l l2 l6 = true) (w0 : whc1 wh = true) :
    Fact Try.prog L F nt 76 [.agg [.int .u8 3, .str nm, .str sec, .int .u8 ab, .int .u8 wh, .int .u8 k, .int .i64 n, .str s, .ps t 26 c l, .int .u8 k2, .int .i64 n2, .str s2, .ps t2 26 c2 l2, .ps t3 58 c3 l3, .ps t4 58 c4 l4, .ps t5 58 c5 l5, .ps t6 9 c6 l6]] [] [.bool (may3 nm sec ab wh (.mk k n s (exsOf l)) (.mk k2 n2 s2 (exsOf l2)) l3.length l4.length l5.length l6.length (strsOf l6))] [] := by
  refine fact_ovr Try.func76 (fact117 nt) (⟨141, sp141, told141 nt⟩ :: TS nt) 1 ?_
  have e1 : tab (⟨141, sp141, told141 nt⟩ :: TS nt) 141 [.agg [.int .u8 3, .str nm, .str sec, .int .u8 ab, .int .u8 wh, .int .u8 k, .int .i64 n, .str s, .ps t 26 c l, .int .u8 k2, .int .i64 n2, .str s2, .ps t2 26 c2 l2, .ps t3 58 c3 l3, .ps t4 58 c4 l4, .ps t5 58 c5 l5, .ps t6 9 c6 l6]] [] = some ([.agg [.int .u8 0, .str nm, .str [], .int .u8 0, .int .u8 wh, .int .u8 k, .int .i64 n, .str s, .ps t 26 c l, .int .u8 0, .int .i64 0, .str [], .ps 0 26 ⟨true, true⟩ [], .ps 0 58 ⟨true, true⟩ [], .ps 0 58 ⟨true, true⟩ [], .ps 0 58 ⟨true, true⟩ [], .ps 0 9 ⟨true, true⟩ []], .bool (mayName nm && orNoEx (.mk k n s (exsOf l)))], []) := by
    rw [tab_hit]; simp only [sp141, hb, cond_true, w0, cond_false]
  have e2 : ∀ (k n : Int) (s : List UInt8) (t : Nat) (c : Cp) (l : List Row), tab (⟨141, sp141, told141 nt⟩ :: TS nt) 106 [.agg [.int .u8 k, .int .i64 n, .str s, .ps t 26 c l]] [] = some ([.bool (noEx (.mk k n s (exsOf l)))], []) := fun k n s t c l => rfl
  have e3 : (strsOf l6).length = l6.length := by simp [strsOf]
  rw [f76o3_q]
  unfold f76o3 may3
  rw [e1, e3]
  dsimp only [Option.bind_some, f76o3_J8, f76o3_J6, nth_zero, nth_1, nth_2, nth_3, nth_4, nth, toCells_agg, toCells_bool, toI_int, toS_str, toR_ps, toB_bool, AV.toTg, AV.toCp, AV.toCells, AV.toB, AV.toI, AV.toS, AV.toR]
  simp only [e2, Option.bind_some, nth_zero, toCells_bool, toB_bool, noEx0, w0, cond_true, cond_false]
  generalize (mayName nm && orNoEx (.mk k n s (exsOf l))) = b0
  generalize noEx (.mk k2 n2 s2 (exsOf l2)) = b_B
  cases b0
  · rfl
  rcases Decidable.em (sec = []) with q_second | q_second
  rotate_left
  · simp [q_second]
  rcases Decidable.em (ab = 0) with q_able | q_able
  rotate_left
  · simp [q_second, q_able]
  cases b_B
  · simp [q_second, q_able]
  rcases Decidable.em ((l3.length : Int) = 0) with q_then | q_then
  rotate_left
  · simp [q_second, q_able, q_then, Ne.symm q_then]
  rcases Decidable.em ((l4.length : Int) = 0) with q_else | q_else
  rotate_left
  · simp [q_second, q_able, q_then, q_else, Ne.symm q_else]
  rcases Decidable.em ((l5.length : Int) = 0) with q_code | q_code
  rotate_left
  · simp [q_second, q_able, q_then, q_else, q_code, Ne.symm q_code]
  rcases Decidable.em ((l6.length : Int) = 0) with q_with | q_with
  rotate_left
  · simp [q_second, q_able, q_then, q_else, q_code, q_with, Ne.symm q_with]
  simp [q_second, q_able, q_then, q_else, q_code, q_with]
theorem may3c2 {nt : Nat} {nm sec s s2 : List UInt8} {ab wh k n k2 n2 : Int} {t t2 t3 t4 t5 t6 : Nat} {c c2 c3 c4 c5 c6 : Cp} {l l2 l3 l4 l5 l6 : List Row} (hb : gS ab l l2 l6 = true) (w0 : whc1 wh = false) (w1 : whc2 wh = true) :
    Fact Try.prog L F nt 76 [.agg [.int .u8 3, .str nm, .str sec, .int .u8 ab, .int .u8 wh, .int .u8 k, .int .i64 n, .str s, .ps t 26 c l, .int .u8 k2, .int .i64 n2, .str s2, .ps t2 26 c2 l2, .ps t3 58 c3 l3, .ps t4 58 c4 l4, .ps t5 58 c5 l5, .ps t6 9 c6 l6]] [] [.bool (may3 nm sec ab wh (.mk k n s (exsOf l)) (.mk k2 n2 s2 (exsOf l2)) l3.length l4.length l5.length l6.length (strsOf l6))] [] := by
  refine fact_ovr Try.func76 (fact117 nt) (⟨141, sp141, told141 nt⟩ :: TS nt) 1 ?_
  have e1 : tab (⟨141, sp141, told141 nt⟩ :: TS nt) 141 [.agg [.int .u8 3, .str nm, .str sec, .int .u8 ab, .int .u8 wh, .int .u8 k, .int .i64 n, .str s, .ps t 26 c l, .int .u8 k2, .int .i64 n2, .str s2, .ps t2 26 c2 l2, .ps t3 58 c3 l3, .ps t4 58 c4 l4, .ps t5 58 c5 l5, .ps t6 9 c6 l6]] [] = some ([.agg [.int .u8 0, .str nm, .str [], .int .u8 0, .int .u8 wh, .int .u8 0, .int .i64 0, .str [], .ps 0 26 ⟨true, true⟩ [], .int .u8 0, .int .i64 0, .str [], .ps 0 26 ⟨true, true⟩ [], .ps 0 58 ⟨true, true⟩ [], .ps 0 58 ⟨true, true⟩ [], .ps 0 58 ⟨true, true⟩ [], .ps 0 9 ⟨true, true⟩ []], .bool (mayName nm)], []) := by
    rw [tab_hit]; simp only [sp141, hb, cond_true, w0, w1, cond_false]
  have e2 : ∀ (k n : Int) (s : List UInt8) (t : Nat) (c : Cp) (l : List Row), tab (⟨141, sp141, told141 nt⟩ :: TS nt) 106 [.agg [.int .u8 k, .int .i64 n, .str s, .ps t 26 c l]] [] = some ([.bool (noEx (.mk k n s (exsOf l)))], []) := fun k n s t c l => rfl
  have e3 : (strsOf l6).length = l6.length := by simp [strsOf]
  rw [f76o3_q]
  unfold f76o3 may3
  rw [e1, e3]
  dsimp only [Option.bind_some, f76o3_J8, f76o3_J6, nth_zero, nth_1, nth_2, nth_3, nth_4, nth, toCells_agg, toCells_bool, toI_int, toS_str, toR_ps, toB_bool, AV.toTg, AV.toCp, AV.toCells, AV.toB, AV.toI, AV.toS, AV.toR]
  simp only [e2, Option.bind_some, nth_zero, toCells_bool, toB_bool, noEx0, w0, w1, cond_true, cond_false]
  generalize (mayName nm) = b0
  generalize noEx (.mk k n s (exsOf l)) = b_A
  generalize noEx (.mk k2 n2 s2 (exsOf l2)) = b_B
  cases b0
  · rfl
  rcases Decidable.em (sec = []) with q_second | q_second
  rotate_left
  · simp [q_second]
  rcases Decidable.em (ab = 0) with q_able | q_able
  rotate_left
  · simp [q_second, q_able]
  cases b_A
  · simp [q_second, q_able]
  cases b_B
  · simp [q_second, q_able]
  rcases Decidable.em ((l3.length : Int) = 0) with q_then | q_then
  rotate_left
  · simp [q_second, q_able, q_then, Ne.symm q_then]
  rcases Decidable.em ((l4.length : Int) = 0) with q_else | q_else
  rotate_left
  · simp [q_second, q_able, q_then, q_else, Ne.symm q_else]
  rcases Decidable.em ((l5.length : Int) = 0) with q_code | q_code
  rotate_left
  · simp [q_second, q_able, q_then, q_else, q_code, Ne.symm q_code]
  rcases Decidable.em ((l6.length : Int) = 0) with q_with | q_with
  rotate_left
  · simp [q_second, q_able, q_then, q_else, q_code, q_with, Ne.symm q_with]
  simp [q_second, q_able, q_then, q_else, q_code, q_with]
theorem may3c3 {nt : Nat} {nm sec s s2 : List UInt8} {ab wh k n k2 n2 : Int} {t t2 t3 t4 t5 t6 : Nat} {c c2 c3 c4 c5 c6 : Cp} {l l2 l3 l4 l5 l6 : List Row} (hb : gS ab l l2 l6 = true) (w0 : whc1 wh = false) (w1 : whc2 wh = false) (w2 : whc3 wh = true) :
    Fact Try.prog L F nt 76 [.agg [.int .u8 3, .str nm, .str sec, .int .u8 ab, .int .u8 wh, .int .u8 k, .int .i64 n, .str s, .ps t 26 c l, .int .u8 k2, .int .i64 n2, .str s2, .ps t2 26 c2 l2, .ps t3 58 c3 l3, .ps t4 58 c4 l4, .ps t5 58 c5 l5, .ps t6 9 c6 l6]] [] [.bool (may3 nm sec ab wh (.mk k n s (exsOf l)) (.mk k2 n2 s2 (exsOf l2)) l3.length l4.length l5.length l6.length (strsOf l6))] [] := by
  refine fact_ovr Try.func76 (fact117 nt) (⟨141, sp141, told141 nt⟩ :: TS nt) 1 ?_
  have e1 : tab (⟨141, sp141, told141 nt⟩ :: TS nt) 141 [.agg [.int .u8 3, .str nm, .str sec, .int .u8 ab, .int .u8 wh, .int .u8 k, .int .i64 n, .str s, .ps t 26 c l, .int .u8 k2, .int .i64 n2, .str s2, .ps t2 26 c2 l2, .ps t3 58 c3 l3, .ps t4 58 c4 l4, .ps t5 58 c5 l5, .ps t6 9 c6 l6]] [] = some ([.agg [.int .u8 0, .str nm, .str [], .int .u8 ab, .int .u8 wh, .int .u8 k, .int .i64 n, .str s, .ps t 26 c l, .int .u8 0, .int .i64 0, .str [], .ps 0 26 ⟨true, true⟩ [], .ps 0 58 ⟨true, true⟩ [], .ps 0 58 ⟨true, true⟩ [], .ps 0 58 ⟨true, true⟩ [], .ps 0 9 ⟨true, true⟩ []], .bool (mayName nm && mayEx (.mk k n s (exsOf l)) && mayAb ab)], []) := by
    rw [tab_hit]; simp only [sp141, hb, cond_true, w0, w1, w2, cond_false]
  have e2 : ∀ (k n : Int) (s : List UInt8) (t : Nat) (c : Cp) (l : List Row), tab (⟨141, sp141, told141 nt⟩ :: TS nt) 106 [.agg [.int .u8 k, .int .i64 n, .str s, .ps t 26 c l]] [] = some ([.bool (noEx (.mk k n s (exsOf l)))], []) := fun k n s t c l => rfl
  have e3 : (strsOf l6).length = l6.length := by simp [strsOf]
  rw [f76o3_q]
  unfold f76o3 may3
  rw [e1, e3]
  dsimp only [Option.bind_some, f76o3_J8, f76o3_J6, nth_zero, nth_1, nth_2, nth_3, nth_4, nth, toCells_agg, toCells_bool, toI_int, toS_str, toR_ps, toB_bool, AV.toTg, AV.toCp, AV.toCells, AV.toB, AV.toI, AV.toS, AV.toR]
  simp only [e2, Option.bind_some, nth_zero, toCells_bool, toB_bool, noEx0, w0, w1, w2, cond_true, cond_false]
  generalize (mayName nm && mayEx (.mk k n s (exsOf l)) && mayAb ab) = b0
  generalize noEx (.mk k2 n2 s2 (exsOf l2)) = b_B
  cases b0
  · rfl
  rcases Decidable.em (sec = []) with q_second | q_second
  rotate_left
  · simp [q_second]
  cases b_B
  · simp [q_second]
  rcases Decidable.em ((l3.length : Int) = 0) with q_then | q_then
  rotate_left
  · simp [q_second, q_then, Ne.symm q_then]
  rcases Decidable.em ((l4.length : Int) = 0) with q_else | q_else
  rotate_left
  · simp [q_second, q_then, q_else, Ne.symm q_else]
  rcases Decidable.em ((l5.length : Int) = 0) with q_code | q_code
  rotate_left
  · simp [q_second, q_then, q_else, q_code, Ne.symm q_code]
  rcases Decidable.em ((l6.length : Int) = 0) with q_with | q_with
  rotate_left
  · simp [q_second, q_then, q_else, q_code, q_with, Ne.symm q_with]
  simp [q_second, q_then, q_else, q_code, q_with]
theorem may3c4 {nt : Nat} {nm sec s s2 : List UInt8} {ab wh k n k2 n2 : Int} {t t2 t3 t4 t5 t6 : Nat} {c c2 c3 c4 c5 c6 : Cp} {l l2 l3 l4 l5 l6 : List Row} (hb : gS ab l l2 l6 = true) (w0 : whc1 wh = false) (w1 : whc2 wh = false) (w2 : whc3 wh = false) (w3 : whc4 wh = true) :
    Fact Try.prog L F nt 76 [.agg [.int .u8 3, .str nm, .str sec, .int .u8 ab, .int .u8 wh, .int .u8 k, .int .i64 n, .str s, .ps t 26 c l, .int .u8 k2, .int .i64 n2, .str s2, .ps t2 26 c2 l2, .ps t3 58 c3 l3, .ps t4 58 c4 l4, .ps t5 58 c5 l5, .ps t6 9 c6 l6]] [] [.bool (may3 nm sec ab wh (.mk k n s (exsOf l)) (.mk k2 n2 s2 (exsOf l2)) l3.length l4.length l5.length l6.length (strsOf l6))] [] := by
  refine fact_ovr Try.func76 (fact117 nt) (⟨141, sp141, told141 nt⟩ :: TS nt) 1 ?_
  have e1 : tab (⟨141, sp141, told141 nt⟩ :: TS nt) 141 [.agg [.int .u8 3, .str nm, .str sec, .int .u8 ab, .int .u8 wh, .int .u8 k, .int .i64 n, .str s, .ps t 26 c l, .int .u8 k2, .int .i64 n2, .str s2, .ps t2 26 c2 l2, .ps t3 58 c3 l3, .ps t4 58 c4 l4, .ps t5 58 c5 l5, .ps t6 9 c6 l6]] [] = some ([.agg [.int .u8 0, .str nm, .str sec, .int .u8 0, .int .u8 wh, .int .u8 k, .int .i64 n, .str s, .ps t 26 c l, .int .u8 0, .int .i64 0, .str [], .ps 0 26 ⟨true, true⟩ [], .ps 0 58 ⟨true, true⟩ [], .ps 0 58 ⟨true, true⟩ [], .ps 0 58 ⟨true, true⟩ [], .ps 0 9 ⟨true, true⟩ []], .bool (mayName nm && mayEx (.mk k n s (exsOf l)) && mayName sec && !decide (sec = nm))], []) := by
    rw [tab_hit]; simp only [sp141, hb, cond_true, w0, w1, w2, w3, cond_false]
  have e2 : ∀ (k n : Int) (s : List UInt8) (t : Nat) (c : Cp) (l : List Row), tab (⟨141, sp141, told141 nt⟩ :: TS nt) 106 [.agg [.int .u8 k, .int .i64 n, .str s, .ps t 26 c l]] [] = some ([.bool (noEx (.mk k n s (exsOf l)))], []) := fun k n s t c l => rfl
  have e3 : (strsOf l6).length = l6.length := by simp [strsOf]
  rw [f76o3_q]
  unfold f76o3 may3
  rw [e1, e3]
  dsimp only [Option.bind_some, f76o3_J8, f76o3_J6, nth_zero, nth_1, nth_2, nth_3, nth_4, nth, toCells_agg, toCells_bool, toI_int, toS_str, toR_ps, toB_bool, AV.toTg, AV.toCp, AV.toCells, AV.toB, AV.toI, AV.toS, AV.toR]
  simp only [e2, Option.bind_some, nth_zero, toCells_bool, toB_bool, noEx0, w0, w1, w2, w3, cond_true, cond_false]
  generalize (mayName nm && mayEx (.mk k n s (exsOf l)) && mayName sec && !decide (sec = nm)) = b0
  generalize noEx (.mk k2 n2 s2 (exsOf l2)) = b_B
  cases b0
  · rfl
  rcases Decidable.em (ab = 0) with q_able | q_able
  rotate_left
  · simp [q_able]
  cases b_B
  · simp [q_able]
  rcases Decidable.em ((l3.length : Int) = 0) with q_then | q_then
  rotate_left
  · simp [q_able, q_then, Ne.symm q_then]
  rcases Decidable.em ((l4.length : Int) = 0) with q_else | q_else
  rotate_left
  · simp [q_able, q_then, q_else, Ne.symm q_else]
  rcases Decidable.em ((l5.length : Int) = 0) with q_code | q_code
  rotate_left
  · simp [q_able, q_then, q_else, q_code, Ne.symm q_code]
  rcases Decidable.em ((l6.length : Int) = 0) with q_with | q_with
  rotate_left
  · simp [q_able, q_then, q_else, q_code, q_with, Ne.symm q_with]
  simp [q_able, q_then, q_else, q_code, q_with]
theorem may3c5 {nt : Nat} {nm sec s s2 : List UInt8} {ab wh k n k2 n2 : Int} {t t2 t3 t4 t5 t6 : Nat} {c c2 c3 c4 c5 c6 : Cp} {l l2 l3 l4 l5 l6 : List Row} (hb : gS ab l l2 l6 = true) (w0 : whc1 wh = false) (w1 : whc2 wh = false) (w2 : whc3 wh = false) (w3 : whc4 wh = false) (w4 : whc5 wh = true) :
    Fact Try.prog L F nt 76 [.agg [.int .u8 3, .str nm, .str sec, .int .u8 ab, .int .u8 wh, .int .u8 k, .int .i64 n, .str s, .ps t 26 c l, .int .u8 k2, .int .i64 n2, .str s2, .ps t2 26 c2 l2, .ps t3 58 c3 l3, .ps t4 58 c4 l4, .ps t5 58 c5 l5, .ps t6 9 c6 l6]] [] [.bool (may3 nm sec ab wh (.mk k n s (exsOf l)) (.mk k2 n2 s2 (exsOf l2)) l3.length l4.length l5.length l6.length (strsOf l6))] [] := by
  refine fact_ovr Try.func76 (fact117 nt) (⟨141, sp141, told141 nt⟩ :: TS nt) 1 ?_
  have e1 : tab (⟨141, sp141, told141 nt⟩ :: TS nt) 141 [.agg [.int .u8 3, .str nm, .str sec, .int .u8 ab, .int .u8 wh, .int .u8 k, .int .i64 n, .str s, .ps t 26 c l, .int .u8 k2, .int .i64 n2, .str s2, .ps t2 26 c2 l2, .ps t3 58 c3 l3, .ps t4 58 c4 l4, .ps t5 58 c5 l5, .ps t6 9 c6 l6]] [] = some ([.agg [.int .u8 0, .str nm, .str sec, .int .u8 0, .int .u8 wh, .int .u8 0, .int .i64 0, .str [], .ps 0 26 ⟨true, true⟩ [], .int .u8 0, .int .i64 0, .str [], .ps 0 26 ⟨true, true⟩ [], .ps 0 58 ⟨true, true⟩ [], .ps 0 58 ⟨true, true⟩ [], .ps 0 58 ⟨true, true⟩ [], .ps 0 9 ⟨true, true⟩ []], .bool (mayName nm && mayName sec && !decide (sec = nm))], []) := by
    rw [tab_hit]; simp only [sp141, hb, cond_true, w0, w1, w2, w3, w4, cond_false]
  have e2 : ∀ (k n : Int) (s : List UInt8) (t : Nat) (c : Cp) (l : List Row), tab (⟨141, sp141, told141 nt⟩ :: TS nt) 106 [.agg [.int .u8 k, .int .i64 n, .str s, .ps t 26 c l]] [] = some ([.bool (noEx (.mk k n s (exsOf l)))], []) := fun k n s t c l => rfl
  have e3 : (strsOf l6).length = l6.length := by simp [strsOf]
  rw [f76o3_q]
  unfold f76o3 may3
  rw [e1, e3]
  dsimp only [Option.bind_some, f76o3_J8, f76o3_J6, nth_zero, nth_1, nth_2, nth_3, nth_4, nth, toCells_agg, toCells_bool, toI_int, toS_str, toR_ps, toB_bool, AV.toTg, AV.toCp, AV.toCells, AV.toB, AV.toI, AV.toS, AV.toR]
  simp only [e2, Option.bind_some, nth_zero, toCells_bool, toB_bool, noEx0, w0, w1, w2, w3, w4, cond_true, cond_false]
  generalize (mayName nm && mayName sec && !decide (sec = nm)) = b0
  generalize noEx (.mk k n s (exsOf l)) = b_A
  generalize noEx (.mk k2 n2 s2 (exsOf l2)) = b_B
  cases b0
  · rfl
  rcases Decidable.em (ab = 0) with q_able | q_able
  rotate_left
  · simp [q_able]
  cases b_A
  · simp [q_able]
  cases b_B
  · simp [q_able]
  rcases Decidable.em ((l3.length : Int) = 0) with q_then | q_then
  rotate_left
  · simp [q_able, q_then, Ne.symm q_then]
  rcases Decidable.em ((l4.length : Int) = 0) with q_else | q_else
  rotate_left
  · simp [q_able, q_then, q_else, Ne.symm q_else]
  rcases Decidable.em ((l5.length : Int) = 0) with q_code | q_code
  rotate_left
  · simp [q_able, q_then, q_else, q_code, Ne.symm q_code]
  rcases Decidable.em ((l6.length : Int) = 0) with q_with | q_with
  rotate_left
  · simp [q_able, q_then, q_else, q_code, q_with, Ne.symm q_with]
  simp [q_able, q_then, q_else, q_code, q_with]
theorem may3c6 {nt : Nat} {nm sec s s2 : List UInt8} {ab wh k n k2 n2 : Int} {t t2 t3 t4 t5 t6 : Nat} {c c2 c3 c4 c5 c6 : Cp} {l l2 l3 l4 l5 l6 : List Row} (hb : gS ab l l2 l6 = true) (w0 : whc1 wh = false) (w1 : whc2 wh = false) (w2 : whc3 wh = false) (w3 : whc4 wh = false) (w4 : whc5 wh = false) (w5 : whc6 wh = true) :
    Fact Try.prog L F nt 76 [.agg [.int .u8 3, .str nm, .str sec, .int .u8 ab, .int .u8 wh, .int .u8 k, .int .i64 n, .str s, .ps t 26 c l, .int .u8 k2, .int .i64 n2, .str s2, .ps t2 26 c2 l2, .ps t3 58 c3 l3, .ps t4 58 c4 l4, .ps t5 58 c5 l5, .ps t6 9 c6 l6]] [] [.bool (may3 nm sec ab wh (.mk k n s (exsOf l)) (.mk k2 n2 s2 (exsOf l2)) l3.length l4.length l5.length l6.length (strsOf l6))] [] := by
  refine fact_ovr Try.func76 (fact117 nt) (⟨141, sp141, told141 nt⟩ :: TS nt) 1 ?_
  have e1 : tab (⟨141, sp141, told141 nt⟩ :: TS nt) 141 [.agg [.int .u8 3, .str nm, .str sec, .int .u8 ab, .int .u8 wh, .int .u8 k, .int .i64 n, .str s, .ps t 26 c l, .int .u8 k2, .int .i64 n2, .str s2, .ps t2 26 c2 l2, .ps t3 58 c3 l3, .ps t4 58 c4 l4, .ps t5 58 c5 l5, .ps t6 9 c6 l6]] [] = some ([.agg [.int .u8 0, .str nm, .str [], .int .u8 0, .int .u8 wh, .int .u8 0, .int .i64 0, .str [], .ps 0 26 ⟨true, true⟩ [], .int .u8 0, .int .i64 0, .str [], .ps 0 26 ⟨true, true⟩ [], .ps 0 58 ⟨true, true⟩ [], .ps 0 58 ⟨true, true⟩ [], .ps t5 58 c5 l5, .ps t6 9 c6 l6], .bool (mayName nm && decide ((l6.length : Int) ≤ 64) && (strsOf l6).all mayName && !twice (strsOf l6))], []) := by
    rw [tab_hit]; simp only [sp141, hb, cond_true, w0, w1, w2, w3, w4, w5, cond_false]
  have e2 : ∀ (k n : Int) (s : List UInt8) (t : Nat) (c : Cp) (l : List Row), tab (⟨141, sp141, told141 nt⟩ :: TS nt) 106 [.agg [.int .u8 k, .int .i64 n, .str s, .ps t 26 c l]] [] = some ([.bool (noEx (.mk k n s (exsOf l)))], []) := fun k n s t c l => rfl
  have e3 : (strsOf l6).length = l6.length := by simp [strsOf]
  rw [f76o3_q]
  unfold f76o3 may3
  rw [e1, e3]
  dsimp only [Option.bind_some, f76o3_J8, f76o3_J6, nth_zero, nth_1, nth_2, nth_3, nth_4, nth, toCells_agg, toCells_bool, toI_int, toS_str, toR_ps, toB_bool, AV.toTg, AV.toCp, AV.toCells, AV.toB, AV.toI, AV.toS, AV.toR]
  simp only [e2, Option.bind_some, nth_zero, toCells_bool, toB_bool, noEx0, w0, w1, w2, w3, w4, w5, cond_true, cond_false]
  generalize (mayName nm && decide ((l6.length : Int) ≤ 64) && (strsOf l6).all mayName && !twice (strsOf l6)) = b0
  generalize noEx (.mk k n s (exsOf l)) = b_A
  generalize noEx (.mk k2 n2 s2 (exsOf l2)) = b_B
  cases b0
  · rfl
  rcases Decidable.em (sec = []) with q_second | q_second
  rotate_left
  · simp [q_second]
  rcases Decidable.em (ab = 0) with q_able | q_able
  rotate_left
  · simp [q_second, q_able]
  cases b_A
  · simp [q_second, q_able]
  cases b_B
  · simp [q_second, q_able]
  rcases Decidable.em ((l3.length : Int) = 0) with q_then | q_then
  rotate_left
  · simp [q_second, q_able, q_then, Ne.symm q_then]
  rcases Decidable.em ((l4.length : Int) = 0) with q_else | q_else
  rotate_left
  · simp [q_second, q_able, q_then, q_else, Ne.symm q_else]
  simp [q_second, q_able, q_then, q_else]
theorem may3c7 {nt : Nat} {nm sec s s2 : List UInt8} {ab wh k n k2 n2 : Int} {t t2 t3 t4 t5 t6 : Nat} {c c2 c3 c4 c5 c6 : Cp} {l l2 l3 l4 l5 l6 : List Row} (hb : gS ab l l2 l6 = true) (w0 : whc1 wh = false) (w1 : whc2 wh = false) (w2 : whc3 wh = false) (w3 : whc4 wh = false) (w4 : whc5 wh = false) (w5 : whc6 wh = false) :
    Fact Try.prog L F nt 76 [.agg [.int .u8 3, .str nm, .str sec, .int .u8 ab, .int .u8 wh, .int .u8 k, .int .i64 n, .str s, .ps t 26 c l, .int .u8 k2, .int .i64 n2, .str s2, .ps t2 26 c2 l2, .ps t3 58 c3 l3, .ps t4 58 c4 l4, .ps t5 58 c5 l5, .ps t6 9 c6 l6]] [] [.bool (may3 nm sec ab wh (.mk k n s (exsOf l)) (.mk k2 n2 s2 (exsOf l2)) l3.length l4.length l5.length l6.length (strsOf l6))] [] := by
  refine fact_ovr Try.func76 (fact117 nt) (⟨141, sp141, told141 nt⟩ :: TS nt) 1 ?_
  have e1 : tab (⟨141, sp141, told141 nt⟩ :: TS nt) 141 [.agg [.int .u8 3, .str nm, .str sec, .int .u8 ab, .int .u8 wh, .int .u8 k, .int .i64 n, .str s, .ps t 26 c l, .int .u8 k2, .int .i64 n2, .str s2, .ps t2 26 c2 l2, .ps t3 58 c3 l3, .ps t4 58 c4 l4, .ps t5 58 c5 l5, .ps t6 9 c6 l6]] [] = some ([.agg [.int .u8 0, .str nm, .str [], .int .u8 0, .int .u8 wh, .int .u8 0, .int .i64 0, .str [], .ps 0 26 ⟨true, true⟩ [], .int .u8 0, .int .i64 0, .str [], .ps 0 26 ⟨true, true⟩ [], .ps 0 58 ⟨true, true⟩ [], .ps 0 58 ⟨true, true⟩ [], .ps 0 58 ⟨true, true⟩ [], .ps 0 9 ⟨true, true⟩ []], .bool (false)], []) := by
    rw [tab_hit]; simp only [sp141, hb, cond_true, w0, w1, w2, w3, w4, w5, cond_false]
  have e2 : ∀ (k n : Int) (s : List UInt8) (t : Nat) (c : Cp) (l : List Row), tab (⟨141, sp141, told141 nt⟩ :: TS nt) 106 [.agg [.int .u8 k, .int .i64 n, .str s, .ps t 26 c l]] [] = some ([.bool (noEx (.mk k n s (exsOf l)))], []) := fun k n s t c l => rfl
  have e3 : (strsOf l6).length = l6.length := by simp [strsOf]
  rw [f76o3_q]
  unfold f76o3 may3
  rw [e1, e3]
  dsimp only [Option.bind_some, f76o3_J8, f76o3_J6, nth_zero, nth_1, nth_2, nth_3, nth_4, nth, toCells_agg, toCells_bool, toI_int, toS_str, toR_ps, toB_bool, AV.toTg, AV.toCp, AV.toCells, AV.toB, AV.toI, AV.toS, AV.toR]
  simp only [e2, Option.bind_some, nth_zero, toCells_bool, toB_bool, noEx0, w0, w1, w2, w3, w4, w5, cond_true, cond_false]
  generalize noEx (.mk k n s (exsOf l)) = b_A
  generalize noEx (.mk k2 n2 s2 (exsOf l2)) = b_B
  rfl
theorem may3_fact {nt : Nat} {nm sec s s2 : List UInt8} {ab wh k n k2 n2 : Int} {t t2 t3 t4 t5 t6 : Nat} {c c2 c3 c4 c5 c6 : Cp} {l l2 l3 l4 l5 l6 : List Row} (hb : gS ab l l2 l6 = true) :
    Fact Try.prog L F nt 76 [.agg [.int .u8 3, .str nm, .str sec, .int .u8 ab, .int .u8 wh, .int .u8 k, .int .i64 n, .str s, .ps t 26 c l, .int .u8 k2, .int .i64 n2, .str s2, .ps t2 26 c2 l2, .ps t3 58 c3 l3, .ps t4 58 c4 l4, .ps t5 58 c5 l5, .ps t6 9 c6 l6]] [] [.bool (may3 nm sec ab wh (.mk k n s (exsOf l)) (.mk k2 n2 s2 (exsOf l2)) l3.length l4.length l5.length l6.length (strsOf l6))] [] := by
  cases w0 : whc1 wh
  case true => exact may3c1 hb w0
  cases w1 : whc2 wh
  case true => exact may3c2 hb w0 w1
  cases w2 : whc3 wh
  case true => exact may3c3 hb w0 w1 w2
  cases w3 : whc4 wh
  case true => exact may3c4 hb w0 w1 w2 w3
  cases w4 : whc5 wh
  case true => exact may3c5 hb w0 w1 w2 w3 w4
  cases w5 : whc6 wh
  case true => exact may3c6 hb w0 w1 w2 w3 w4 w5
  exact may3c7 hb w0 w1 w2 w3 w4 w5
end Go.Ev.T
