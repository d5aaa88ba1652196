/- Functions 68, 112, 113, 136 (whether an expression may be), decompiled, and what they come to. -/
import Derived.Test.YtljiamlnpmhpmaaF38
set_option linter.unusedVariables false
set_option linter.unusedSimpArgs false
noncomputable section
namespace Go.Ev.T
open Go Go.Ev Go.Proofs
def f68_J3 (nt : Nat) (X : Call') (n : Nat) (a0 : Int) (a2 : List UInt8) (a3T : Nat) (a3C : Cp) (a3 : List Row) (left : Int) (nest : Int) (b12 : Bool) : Option (List AV × List AObj) :=
  (bif b12 then some (([AV.bool false], [AObj.box 3 [AV.int IntKind.i64 (IntKind.wrap IntKind.i64 (left - 1))]])) else (bif decide (a0 = 1) then some (([AV.bool true], [AObj.box 3 [AV.int IntKind.i64 (IntKind.wrap IntKind.i64 (left - 1))]])) else (bif decide (a0 = 2) then some (([AV.bool (decide ((↑(List.length a2) : Int) ≤ 256))], [AObj.box 3 [AV.int IntKind.i64 (IntKind.wrap IntKind.i64 (left - 1))]])) else (bif decide (a0 = 4) then ((X 38 [AV.str a2] []).bind fun r13 => some (([AV.bool (AV.toB (nth AV.u (AV.toCells (nth AV.u (Prod.fst r13) 0)) 0))], [AObj.box 3 [AV.int IntKind.i64 (IntKind.wrap IntKind.i64 (left - 1))]]))) else (bif decide (a0 = 3) then (bif decide (0 < nest) then ((X 112 [AV.ps a3T 26 a3C a3, AV.func (some 113) [AV.ptr 0 0 0 0, AV.ptr 1 0 0 0]] [AObj.box 96 [AV.ptr 2 0 0 0], AObj.box 3 [AV.int IntKind.i64 nest], AObj.box 3 [AV.int IntKind.i64 (IntKind.wrap IntKind.i64 (left - 1))]]).bind fun r14 => some (([AV.bool !AV.toB (nth AV.u (AV.toCells (nth AV.u (Prod.fst r14) 0)) 0)], [AObj.box 3 [AV.int IntKind.i64 (AV.toI (nth AV.u (AObj.toRow (nth AObj.dead (Prod.snd r14) 2)) 0))]]))) else some (([AV.bool false], [AObj.box 3 [AV.int IntKind.i64 (IntKind.wrap IntKind.i64 (left - 1))]]))) else some (([AV.bool false], [AObj.box 3 [AV.int IntKind.i64 (IntKind.wrap IntKind.i64 (left - 1))]])))))))
def f68 (nt : Nat) (X : Call') (n : Nat) (a0 : Int) (a1 : Int) (a2 : List UInt8) (a3T : Nat) (a3C : Cp) (a3 : List Row) (left : Int) (nest : Int) : Option (List AV × List AObj) :=
  (bif decide (IntKind.wrap IntKind.i64 (left - 1) < 0) then f68_J3 nt X n a0 a2 a3T a3C a3 left nest (true) else (bif !decide (a0 = 1) then (bif !decide (a1 = 0) then f68_J3 nt X n a0 a2 a3T a3C a3 left nest (true) else (bif !decide (a0 = 3) then (bif decide (0 < (↑(List.length a3) : Int)) then f68_J3 nt X n a0 a2 a3T a3C a3 left nest (true) else (bif !decide (a0 = 2) then (bif !decide (a0 = 4) then f68_J3 nt X n a0 a2 a3T a3C a3 left nest (!decide (a2 = [])) else f68_J3 nt X n a0 a2 a3T a3C a3 left nest (false)) else f68_J3 nt X n a0 a2 a3T a3C a3 left nest (false))) else (bif !decide (a0 = 2) then (bif !decide (a0 = 4) then f68_J3 nt X n a0 a2 a3T a3C a3 left nest (!decide (a2 = [])) else f68_J3 nt X n a0 a2 a3T a3C a3 left nest (false)) else f68_J3 nt X n a0 a2 a3T a3C a3 left nest (false)))) else (bif !decide (a0 = 3) then (bif decide (0 < (↑(List.length a3) : Int)) then f68_J3 nt X n a0 a2 a3T a3C a3 left nest (true) else (bif !decide (a0 = 2) then (bif !decide (a0 = 4) then f68_J3 nt X n a0 a2 a3T a3C a3 left nest (!decide (a2 = [])) else f68_J3 nt X n a0 a2 a3T a3C a3 left nest (false)) else f68_J3 nt X n a0 a2 a3T a3C a3 left nest (false))) else (bif !decide (a0 = 2) then (bif !decide (a0 = 4) then f68_J3 nt X n a0 a2 a3T a3C a3 left nest (!decide (a2 = [])) else f68_J3 nt X n a0 a2 a3T a3C a3 left nest (false)) else f68_J3 nt X n a0 a2 a3T a3C a3 left nest (false)))))
theorem f68_q (nt : Nat) (X : Call') (n : Nat) (a0 : Int) (a1 : Int) (a2 : List UInt8) (a3T : Nat) (a3C : Cp) (a3 : List Row) (left : Int) (nest : Int) : evBody ⟨L, F, nt, X⟩ (lookV V 68) n Try.f68 (sig F 68).res [AV.agg [AV.int IntKind.u8 a0, AV.int IntKind.i64 a1, AV.str a2, AV.ps a3T 26 a3C a3], AV.ptr 0 0 0 0, AV.int IntKind.i64 nest] [AObj.box 3 [AV.int IntKind.i64 left]] = f68 nt X n a0 a1 a2 a3T a3C a3 left nest := by kernel_rfl
def f112 (nt : Nat) (X : Call') (n : Nat) (aT : Nat) (aC : Cp) (a : List Row) (left : Int) (nest : Int) : Option (List AV × List AObj) :=
  ((X 136 [AV.ps aT 26 aC a, AV.func (some 113) [AV.ptr 0 0 0 0, AV.ptr 1 0 0 0]] [AObj.box 96 [AV.ptr 2 0 0 0], AObj.box 3 [AV.int IntKind.i64 nest], AObj.box 3 [AV.int IntKind.i64 left]]).bind fun r9 => some (([AV.bool (decide (0 ≤ AV.toI (nth AV.u (AV.toCells (nth AV.u (Prod.fst r9) 0)) 0)))], [AObj.box 96 [AV.ptr 2 0 0 0], AObj.box 3 [AV.int IntKind.i64 (AV.toI (nth AV.u (AObj.toRow (nth AObj.dead (Prod.snd r9) 1)) 0))], AObj.box 3 [AV.int IntKind.i64 (AV.toI (nth AV.u (AObj.toRow (nth AObj.dead (Prod.snd r9) 2)) 0))]])))
theorem f112_q (nt : Nat) (X : Call') (n : Nat) (aT : Nat) (aC : Cp) (a : List Row) (left : Int) (nest : Int) : evBody ⟨L, F, nt, X⟩ (lookV V 112) n Try.f112 (sig F 112).res [AV.ps aT 26 aC a, AV.func (some 113) [AV.ptr 0 0 0 0, AV.ptr 1 0 0 0]] [AObj.box 96 [AV.ptr 2 0 0 0], AObj.box 3 [AV.int IntKind.i64 nest], AObj.box 3 [AV.int IntKind.i64 left]] = f112 nt X n aT aC a left nest := by kernel_rfl
def f113 (nt : Nat) (X : Call') (n : Nat) (a0 : Int) (a1 : Int) (a2 : List UInt8) (a3T : Nat) (a3C : Cp) (a3 : List Row) (left : Int) (nest : Int) : Option (List AV × List AObj) :=
  ((X 68 [AV.agg [AV.int IntKind.u8 a0, AV.int IntKind.i64 a1, AV.str a2, AV.ps a3T 26 a3C a3], AV.ptr 0 0 0 0, AV.int IntKind.i64 (IntKind.wrap IntKind.i64 (nest - 1))] [AObj.box 3 [AV.int IntKind.i64 left]]).bind fun r12 => some (([AV.bool !AV.toB (nth AV.u (AV.toCells (nth AV.u (Prod.fst r12) 0)) 0)], [AObj.box 96 [AV.ptr 2 0 0 0], AObj.box 3 [AV.int IntKind.i64 nest], AObj.box 3 [AV.int IntKind.i64 (AV.toI (nth AV.u (AObj.toRow (nth AObj.dead (Prod.snd r12) 0)) 0))]])))
theorem f113_q (nt : Nat) (X : Call') (n : Nat) (a0 : Int) (a1 : Int) (a2 : List UInt8) (a3T : Nat) (a3C : Cp) (a3 : List Row) (left : Int) (nest : Int) : evBody ⟨L, F, nt, X⟩ (lookV V 113) n Try.f113 (sig F 113).res [AV.agg [AV.int IntKind.u8 a0, AV.int IntKind.i64 a1, AV.str a2, AV.ps a3T 26 a3C a3], AV.ptr 0 0 0 0, AV.ptr 1 0 0 0] [AObj.box 96 [AV.ptr 2 0 0 0], AObj.box 3 [AV.int IntKind.i64 nest], AObj.box 3 [AV.int IntKind.i64 left]] = f113 nt X n a0 a1 a2 a3T a3C a3 left nest := by kernel_rfl
def f136_2_S (aT : Nat) (aC : Cp) (a : List Row) (i10 : Int) (i11 : Int) (i12 : Int) : St := St.mk [AV.ps aT 26 aC a, AV.func (some 113) [AV.ptr 0 0 0 0, AV.ptr 1 0 0 0], AV.u, AV.u, AV.u, AV.u, AV.u, AV.int IntKind.i64 (↑(List.length a) : Int), AV.int IntKind.i64 i10, AV.u, AV.u, AV.u, AV.u, AV.u, AV.u, AV.u, AV.u, AV.u, AV.u] [AObj.box 96 [AV.ptr 2 0 0 0], AObj.box 3 [AV.int IntKind.i64 i11], AObj.box 3 [AV.int IntKind.i64 i12]]
def f136_2_X0 (i11 : Int) (i12 : Int) : St := St.mk [AV.u, AV.u, AV.u, AV.u, AV.u, AV.u, AV.u, AV.u, AV.u, AV.u, AV.u, AV.u, AV.u, AV.u, AV.u, AV.u, AV.u, AV.u, AV.u] [AObj.box 96 [AV.ptr 2 0 0 0], AObj.box 3 [AV.int IntKind.i64 i11], AObj.box 3 [AV.int IntKind.i64 i12]]
def f136_2_X1 (i10 : Int) (r13 : List AV × List AObj) : St := St.mk [AV.u, AV.u, AV.u, AV.u, AV.int IntKind.i64 i10, AV.u, AV.u, AV.u, AV.u, AV.u, AV.u, AV.u, AV.u, AV.u, AV.u, AV.u, AV.u, AV.u, AV.u] [AObj.box 96 [AV.ptr 2 0 0 0], AObj.box 3 [AV.int IntKind.i64 (AV.toI (nth AV.u (AObj.toRow (nth AObj.dead (Prod.snd r13) 1)) 0))], AObj.box 3 [AV.int IntKind.i64 (AV.toI (nth AV.u (AObj.toRow (nth AObj.dead (Prod.snd r13) 2)) 0))]]
def f136_2 {ρ : Type} (nt : Nat) (X : Call') (n : Nat) (kN : Int → Int → Int → Option ρ) (x1 : Int → List AV × List AObj → Option ρ) (x0 : Int → Int → Option ρ) (a : List Row) (i10 : Int) (i11 : Int) (i12 : Int) : Option ρ :=
  (bif decide (i10 < (↑(List.length a) : Int)) then (bif decide (0 ≤ i10) && decide (i10 < (↑(List.length a) : Int)) then ((X 113 [AV.agg [AV.int IntKind.u8 (AV.toI (nth AV.u (nth [] a (Int.toNat i10)) 0)), AV.int IntKind.i64 (AV.toI (nth AV.u (nth [] a (Int.toNat i10)) 1)), AV.str (AV.toS (nth AV.u (nth [] a (Int.toNat i10)) 2)), AV.ps (AV.toTg (nth AV.u (nth [] a (Int.toNat i10)) 3)) 26 (AV.toCp (nth AV.u (nth [] a (Int.toNat i10)) 3)) (AV.toR (nth AV.u (nth [] a (Int.toNat i10)) 3))], AV.ptr 0 0 0 0, AV.ptr 1 0 0 0] [AObj.box 96 [AV.ptr 2 0 0 0], AObj.box 3 [AV.int IntKind.i64 i11], AObj.box 3 [AV.int IntKind.i64 i12]]).bind fun r13 => (bif AV.toB (nth AV.u (AV.toCells (nth AV.u (Prod.fst r13) 0)) 0) then x1 i10 r13 else kN (IntKind.wrap IntKind.i64 (i10 + 1)) (AV.toI (nth AV.u (AObj.toRow (nth AObj.dead (Prod.snd r13) 1)) 0)) (AV.toI (nth AV.u (AObj.toRow (nth AObj.dead (Prod.snd r13) 2)) 0)))) else none) else x0 i11 i12)
theorem f136_2_q {ρ : Type} (nt : Nat) (X : Call') (n : Nat) (kN : St → Option ρ) (kX : Nat → St → Option ρ) (kR : St → Option ρ) (aT : Nat) (aC : Cp) (a : List Row) (i10 : Int) (i11 : Int) (i12 : Int) : stepL ⟨L, F, nt, X⟩ ⟨3, lookV V 136⟩ n (subc (bodyOf Try.f136) [1, 0, 1, 0, 0]) (look (lookV V 136) 2).xl kX kR (fun s => kN ((clean 3 3 (look (lookV V 136) 2) []) s)) (f136_2_S aT aC a i10 i11 i12) = f136_2 nt X n (fun i10 i11 i12 => kN (f136_2_S aT aC a i10 i11 i12)) (fun i10 r13 => kR (f136_2_X1 i10 r13)) (fun i11 i12 => kX 0 (f136_2_X0 i11 i12)) a i10 i11 i12 := by kernel_rfl
def f136_2_L {ρ : Type} (nt : Nat) (X : Call') (n : Nat) (x0 : Int → Int → Option ρ) (x1 : Int → List AV × List AObj → Option ρ) (a : List Row) : Nat → Int → Int → Int → Option ρ
  | 0, _, _, _ => none
  | m + 1, i10, i11, i12 => f136_2 nt X n (fun i10 i11 i12 => f136_2_L nt X n x0 x1 a m i10 i11 i12) x1 x0 a i10 i11 i12
theorem f136_2_e {ρ : Type} (nt : Nat) (X : Call') (n : Nat) (kX : Nat → St → Option ρ) (kR : St → Option ρ) (aT : Nat) (aC : Cp) (a : List Row) (m : Nat) (i10 : Int) (i11 : Int) (i12 : Int) : loopN (stepL ⟨L, F, nt, X⟩ ⟨3, lookV V 136⟩ n (subc (bodyOf Try.f136) [1, 0, 1, 0, 0]) (look (lookV V 136) 2).xl kX kR) (clean 3 3 (look (lookV V 136) 2) []) m (f136_2_S aT aC a i10 i11 i12) = f136_2_L nt X n (fun i11 i12 => kX 0 (f136_2_X0 i11 i12)) (fun i10 r13 => kR (f136_2_X1 i10 r13)) a m i10 i11 i12 :=
  loopN_ind (α := Int × Int × Int) (fun w => ((fun i10 i11 i12 => (f136_2_S aT aC a i10 i11 i12))) w.1 w.2.1 w.2.2) (fun k w => ((fun i10 i11 i12 => f136_2 nt X n (fun i10 i11 i12 => k (i10, i11, i12)) (fun i10 r13 => kR (f136_2_X1 i10 r13)) (fun i11 i12 => kX 0 (f136_2_X0 i11 i12)) a i10 i11 i12)) w.1 w.2.1 w.2.2) (fun m w => ((fun i10 i11 i12 => f136_2_L nt X n (fun i11 i12 => kX 0 (f136_2_X0 i11 i12)) (fun i10 r13 => kR (f136_2_X1 i10 r13)) a m i10 i11 i12)) w.1 w.2.1 w.2.2) (fun _ => rfl) (fun _ _ => rfl) (fun kN w => ((fun i10 i11 i12 => f136_2_q nt X n kN kX kR aT aC a i10 i11 i12)) w.1 w.2.1 w.2.2) m (i10, i11, i12)
def f136_2_P0 (nt : Nat) (X : Call') (n : Nat) (i11 : Int) (i12 : Int) : Option (List AV × List AObj) :=
  some (([AV.int IntKind.i64 (-1)], [AObj.box 96 [AV.ptr 2 0 0 0], AObj.box 3 [AV.int IntKind.i64 i11], AObj.box 3 [AV.int IntKind.i64 i12]]))
theorem f136_2_P0_q (nt : Nat) (X : Call') (n : Nat) (left : Int) (nest : Int) (i11 : Int) (i12 : Int) : (kNf ⟨L, F, nt, X⟩ ⟨3, lookV V 136⟩ n (finish ⟨L, F, nt, X⟩ Try.f136 (sig F 136).res [AObj.box 96 [AV.ptr 2 0 0 0], AObj.box 3 [AV.int IntKind.i64 nest], AObj.box 3 [AV.int IntKind.i64 left]]) (finish ⟨L, F, nt, X⟩ Try.f136 (sig F 136).res [AObj.box 96 [AV.ptr 2 0 0 0], AObj.box 3 [AV.int IntKind.i64 nest], AObj.box 3 [AV.int IntKind.i64 left]]) (fun _ _ => none) [.block 0, .seq (subc (bodyOf Try.f136) [1, 1])]).2 0 (f136_2_X0 i11 i12) = f136_2_P0 nt X n i11 i12 := by kernel_rfl
def f136_2_P1 (nt : Nat) (X : Call') (n : Nat) (i10 : Int) (r13 : List AV × List AObj) : Option (List AV × List AObj) :=
  some (([AV.int IntKind.i64 i10], [AObj.box 96 [AV.ptr 2 0 0 0], AObj.box 3 [AV.int IntKind.i64 (AV.toI (nth AV.u (AObj.toRow (nth AObj.dead (Prod.snd r13) 1)) 0))], AObj.box 3 [AV.int IntKind.i64 (AV.toI (nth AV.u (AObj.toRow (nth AObj.dead (Prod.snd r13) 2)) 0))]]))
theorem f136_2_P1_q (nt : Nat) (X : Call') (n : Nat) (left : Int) (nest : Int) (i10 : Int) (r13 : List AV × List AObj) : (finish ⟨L, F, nt, X⟩ Try.f136 (sig F 136).res [AObj.box 96 [AV.ptr 2 0 0 0], AObj.box 3 [AV.int IntKind.i64 nest], AObj.box 3 [AV.int IntKind.i64 left]]) (f136_2_X1 i10 r13) = f136_2_P1 nt X n i10 r13 := by kernel_rfl
def f136_R (nt : Nat) (X : Call') (n : Nat) (L0 : Int → Int → Int → Option (List AV × List AObj)) (left : Int) (nest : Int) : Option (List AV × List AObj) :=
  L0  (0) (nest) (left)
def f136 (nt : Nat) (X : Call') (n : Nat) (a : List Row) (left : Int) (nest : Int) : Option (List AV × List AObj) :=
  f136_R nt X n (fun i10 i11 i12 => f136_2_L nt X n (fun i11 i12 => f136_2_P0 nt X n i11 i12) (fun i10 r13 => f136_2_P1 nt X n i10 r13) a n i10 i11 i12) left nest
theorem f136_q (nt : Nat) (X : Call') (n : Nat) (aT : Nat) (aC : Cp) (a : List Row) (left : Int) (nest : Int) : evBody ⟨L, F, nt, X⟩ (lookV V 136) n Try.f136 (sig F 136).res [AV.ps aT 26 aC a, AV.func (some 113) [AV.ptr 0 0 0 0, AV.ptr 1 0 0 0]] [AObj.box 96 [AV.ptr 2 0 0 0], AObj.box 3 [AV.int IntKind.i64 nest], AObj.box 3 [AV.int IntKind.i64 left]] = f136 nt X n a left nest :=
  Eq.trans (b := f136_R nt X n (fun i10 i11 i12 => loopN (stepL ⟨L, F, nt, X⟩ ⟨3, lookV V 136⟩ n (subc (bodyOf Try.f136) [1, 0, 1, 0, 0]) (look (lookV V 136) 2).xl (kNf ⟨L, F, nt, X⟩ ⟨3, lookV V 136⟩ n (finish ⟨L, F, nt, X⟩ Try.f136 (sig F 136).res [AObj.box 96 [AV.ptr 2 0 0 0], AObj.box 3 [AV.int IntKind.i64 nest], AObj.box 3 [AV.int IntKind.i64 left]]) (finish ⟨L, F, nt, X⟩ Try.f136 (sig F 136).res [AObj.box 96 [AV.ptr 2 0 0 0], AObj.box 3 [AV.int IntKind.i64 nest], AObj.box 3 [AV.int IntKind.i64 left]]) (fun _ _ => none) [.block 0, .seq (subc (bodyOf Try.f136) [1, 1])]).2 (finish ⟨L, F, nt, X⟩ Try.f136 (sig F 136).res [AObj.box 96 [AV.ptr 2 0 0 0], AObj.box 3 [AV.int IntKind.i64 nest], AObj.box 3 [AV.int IntKind.i64 left]])) (clean 3 3 (look (lookV V 136) 2) []) n (f136_2_S aT aC a i10 i11 i12)) left nest) (by kernel_rfl) (congrArg (fun q => q left nest) (congrArg (f136_R nt X n ) (show (fun i10 i11 i12 => loopN (stepL ⟨L, F, nt, X⟩ ⟨3, lookV V 136⟩ n (subc (bodyOf Try.f136) [1, 0, 1, 0, 0]) (look (lookV V 136) 2).xl (kNf ⟨L, F, nt, X⟩ ⟨3, lookV V 136⟩ n (finish ⟨L, F, nt, X⟩ Try.f136 (sig F 136).res [AObj.box 96 [AV.ptr 2 0 0 0], AObj.box 3 [AV.int IntKind.i64 nest], AObj.box 3 [AV.int IntKind.i64 left]]) (finish ⟨L, F, nt, X⟩ Try.f136 (sig F 136).res [AObj.box 96 [AV.ptr 2 0 0 0], AObj.box 3 [AV.int IntKind.i64 nest], AObj.box 3 [AV.int IntKind.i64 left]]) (fun _ _ => none) [.block 0, .seq (subc (bodyOf Try.f136) [1, 1])]).2 (finish ⟨L, F, nt, X⟩ Try.f136 (sig F 136).res [AObj.box 96 [AV.ptr 2 0 0 0], AObj.box 3 [AV.int IntKind.i64 nest], AObj.box 3 [AV.int IntKind.i64 left]])) (clean 3 3 (look (lookV V 136) 2) []) n (f136_2_S aT aC a i10 i11 i12)) = _ from funext fun i10 => funext fun i11 => funext fun i12 => (f136_2_e nt X n (kNf ⟨L, F, nt, X⟩ ⟨3, lookV V 136⟩ n (finish ⟨L, F, nt, X⟩ Try.f136 (sig F 136).res [AObj.box 96 [AV.ptr 2 0 0 0], AObj.box 3 [AV.int IntKind.i64 nest], AObj.box 3 [AV.int IntKind.i64 left]]) (finish ⟨L, F, nt, X⟩ Try.f136 (sig F 136).res [AObj.box 96 [AV.ptr 2 0 0 0], AObj.box 3 [AV.int IntKind.i64 nest], AObj.box 3 [AV.int IntKind.i64 left]]) (fun _ _ => none) [.block 0, .seq (subc (bodyOf Try.f136) [1, 1])]).2 (finish ⟨L, F, nt, X⟩ Try.f136 (sig F 136).res [AObj.box 96 [AV.ptr 2 0 0 0], AObj.box 3 [AV.int IntKind.i64 nest], AObj.box 3 [AV.int IntKind.i64 left]]) aT aC a n i10 i11 i12).trans (congrArg (fun q => q a n i10 i11 i12) (congr (congrArg (f136_2_L nt X n) (show (fun i11 i12 => (kNf ⟨L, F, nt, X⟩ ⟨3, lookV V 136⟩ n (finish ⟨L, F, nt, X⟩ Try.f136 (sig F 136).res [AObj.box 96 [AV.ptr 2 0 0 0], AObj.box 3 [AV.int IntKind.i64 nest], AObj.box 3 [AV.int IntKind.i64 left]]) (finish ⟨L, F, nt, X⟩ Try.f136 (sig F 136).res [AObj.box 96 [AV.ptr 2 0 0 0], AObj.box 3 [AV.int IntKind.i64 nest], AObj.box 3 [AV.int IntKind.i64 left]]) (fun _ _ => none) [.block 0, .seq (subc (bodyOf Try.f136) [1, 1])]).2 0 (f136_2_X0 i11 i12)) = (fun i11 i12 => f136_2_P0 nt X n i11 i12) from funext fun i11 => funext fun i12 => (f136_2_P0_q nt X n left nest i11 i12))) (show (fun i10 r13 => (finish ⟨L, F, nt, X⟩ Try.f136 (sig F 136).res [AObj.box 96 [AV.ptr 2 0 0 0], AObj.box 3 [AV.int IntKind.i64 nest], AObj.box 3 [AV.int IntKind.i64 left]]) (f136_2_X1 i10 r13)) = (fun i10 r13 => f136_2_P1 nt X n i10 r13) from funext fun i10 => funext fun r13 => (f136_2_P1_q nt X n left nest i10 r13)))))))

def sp68 (m : Nat) : Sp
  | [.agg [.int .u8 k, .int .i64 n, .str s, .ps _ 26 _ l], .ptr 0 0 0 0, .int .i64 nest], [.box 3 [.int .i64 left]] =>
    bif Nat.blt (szR l) m then some ([.bool (mayE (.mk k n s (exsOf l)) nest left).1], [.box 3 [.int .i64 (mayE (.mk k n s (exsOf l)) nest left).2]]) else none
  | _, _ => none
def sp113 (m : Nat) : Sp
  | [.agg [.int .u8 k, .int .i64 n, .str s, .ps _ 26 _ l], .ptr 0 0 0 0, .ptr 1 0 0 0], [.box 96 [.ptr 2 0 0 0], .box 3 [.int .i64 nest], .box 3 [.int .i64 left]] =>
    bif Nat.blt (szR l) m then some ([.bool (!(mayE (.mk k n s (exsOf l)) (w64 (nest - 1)) left).1)], [.box 96 [.ptr 2 0 0 0], .box 3 [.int .i64 nest], .box 3 [.int .i64 (mayE (.mk k n s (exsOf l)) (w64 (nest - 1)) left).2]]) else none
  | _, _ => none
def big : Nat := 1099511627776
def sp136 (m : Nat) : Sp
  | [.ps _ 26 _ l, .func (some 113) [.ptr 0 0 0 0, .ptr 1 0 0 0]], [.box 96 [.ptr 2 0 0 0], .box 3 [.int .i64 nest], .box 3 [.int .i64 left]] =>
    bif Nat.blt (szR l) (m + 1) && Nat.blt l.length big then some ([.int .i64 (mayIx (exsOf l) nest left 0).1], [.box 96 [.ptr 2 0 0 0], .box 3 [.int .i64 nest], .box 3 [.int .i64 (mayIx (exsOf l) nest left 0).2]]) else none
  | _, _ => none
def sp112 (m : Nat) : Sp
  | [.ps _ 26 _ l, .func (some 113) [.ptr 0 0 0 0, .ptr 1 0 0 0]], [.box 96 [.ptr 2 0 0 0], .box 3 [.int .i64 nest], .box 3 [.int .i64 left]] =>
    bif Nat.blt (szR l) (m + 1) && Nat.blt l.length big then some ([.bool (!(mayEs (exsOf l) nest left).1)], [.box 96 [.ptr 2 0 0 0], .box 3 [.int .i64 nest], .box 3 [.int .i64 (mayEs (exsOf l) nest left).2]]) else none
  | _, _ => none
theorem told113 {nt m : Nat} (h68 : Facts nt 68 (sp68 m)) : Facts nt 113 (sp113 m) := fun args h rs h' hv => by
  unfold sp113 at hv
  split at hv
  · rename_i k n s T C l nest left
    refine fact_tab Try.func113 [⟨68, sp68 m, h68⟩] 1 ?_
    rw [f113_q]
    cases hb : Nat.blt (szR l) m
    · rw [hb] at hv; cases hv
    · rw [hb] at hv
      rw [← hv]
      simp only [f113, tab_hit, sp68, hb, cond_true, Option.bind_some, toI_int, toB_bool, toS_str, toR_ps, toCells_int, toCells_bool, toRow_box, nth_zero, nth_1, nth_2, nth_3, w64]
  · cases hv
theorem nth_mem {α : Type} {d : α} {l : List α} {k : Nat} (h : k < l.length) : nth d l k ∈ l := by
  rw [nth_get h]; exact List.getElem_mem h
theorem drop_nth {l : List Row} {k : Nat} (h : k < l.length) : l.drop k = nth [] l k :: l.drop (k + 1) := by
  rw [nth_get h]; exact List.drop_eq_getElem_cons h
theorem f136_loop {nt m n : Nat} (h113 : Facts nt 113 (sp113 m)) {l : List Row} (hl : szR l < m + 1) (hb : l.length < big) : ∀ (fu k : Nat) (nest left : Int), k ≤ l.length → l.length - k < fu →
    f136_2_L nt (tab [⟨113, sp113 m, h113⟩]) n (fun i11 i12 => f136_2_P0 nt (tab [⟨113, sp113 m, h113⟩]) n i11 i12) (fun i10 r13 => f136_2_P1 nt (tab [⟨113, sp113 m, h113⟩]) n i10 r13) l fu k nest left =
      some ([.int .i64 (mayIx (exsOf (l.drop k)) nest left k).1], [.box 96 [.ptr 2 0 0 0], .box 3 [.int .i64 nest], .box 3 [.int .i64 (mayIx (exsOf (l.drop k)) nest left k).2]])
  | 0, k, nest, left, h1, h2 => by omega
  | fu + 1, k, nest, left, h1, h2 => by
    by_cases hk : k < l.length
    · have hm := nth_mem (d := []) hk
      have hs : Nat.blt (szR (nth .u (nth [] l k) 3).toR) m = true := by
        rw [nblt]; have := sz_mem hm; have := sz_nth (nth [] l k) 3; omega
      have h3 : decide ((k : Int) < (l.length : Int)) = true := by simp only [decide_eq_true_eq]; omega
      have h4 : decide ((0 : Int) ≤ (k : Int)) = true := by simp only [decide_eq_true_eq]; omega
      have hw := wrap_i64_nat (k := k) (by unfold big at hb; omega)
      rw [drop_nth hk]
      simp only [exsOf, List.map_cons]
      rw [← exsOf, exOf_eq]
      simp only [f136_2_L, f136_2, h3, h4, Int.toNat_natCast, tab_hit, sp113, hs, cond_true, Option.bind_some, toI_int, toB_bool, toS_str, toR_ps, toCells_int, toCells_bool, toRow_box, nth_zero, nth_1, nth_2, nth_3, hw, Bool.true_and, mayIx]
      generalize hp : mayE (Ex.mk (nth AV.u (nth [] l k) 0).toI (nth AV.u (nth [] l k) 1).toI (nth AV.u (nth [] l k) 2).toS (exsOf (nth AV.u (nth [] l k) 3).toR)) (w64 (nest - 1)) left = p
      obtain ⟨b, left'⟩ := p
      cases b
      · simp only [Bool.not_false, cond_true, cond_false, f136_2_P1, toI_int, toB_bool, toS_str, toR_ps, toCells_int, toCells_bool, toRow_box, nth_zero, nth_1, nth_2, nth_3]
      · simp only [Bool.not_true, cond_true, cond_false]
        exact f136_loop h113 hl hb fu (k + 1) nest left' (by omega) (by omega)
    · obtain rfl : k = l.length := by omega
      have h3 : decide (((l.length : Nat) : Int) < (l.length : Int)) = false := by simp
      simp only [f136_2_L, f136_2, h3, List.drop_length, exsOf, List.map_nil, mayIx, cond_false, f136_2_P0]
theorem told136 {nt m : Nat} (h113 : Facts nt 113 (sp113 m)) : Facts nt 136 (sp136 m) := fun args h rs h' hv => by
  unfold sp136 at hv
  split at hv
  · rename_i T C l nest left
    cases hb : (Nat.blt (szR l) (m + 1) && Nat.blt l.length big)
    · rw [hb] at hv; cases hv
    · rw [hb] at hv
      rw [Bool.and_eq_true, nblt, nblt] at hb
      refine fact_tab Try.func136 [⟨113, sp113 m, h113⟩] (l.length + 1) ?_
      rw [f136_q, ← hv]
      exact f136_loop h113 hb.1 hb.2 (l.length + 1) 0 nest left (by omega) (by omega)
  · cases hv
theorem told112 {nt m : Nat} (h136 : Facts nt 136 (sp136 m)) : Facts nt 112 (sp112 m) := fun args h rs h' hv => by
  unfold sp112 at hv
  split at hv
  · rename_i T C l nest left
    cases hb : (Nat.blt (szR l) (m + 1) && Nat.blt l.length big)
    · rw [hb] at hv; cases hv
    · rw [hb] at hv
      refine fact_tab Try.func112 [⟨136, sp136 m, h136⟩] 1 ?_
      have hi := mayIx_ok (exsOf l) nest left 0 (by omega)
      rw [f112_q, ← hv]
      simp only [f112, tab_hit, sp136, hb, cond_true, Option.bind_some, toI_int, toB_bool, toS_str, toR_ps, toCells_int, toCells_bool, toRow_box, nth_zero, nth_1, nth_2, nth_3, hi.2, ← hi.1, Bool.not_not]
      rfl
  · cases hv
theorem f68_sel {α : Type} (b0 b1 b2 b3 b4 bn bs bl : Bool) (J : Bool → α) :
    (bif b0 then J true else (bif !b1 then (bif !bn then J true else (bif !b3 then (bif bl then J true else (bif !b2 then (bif !b4 then J (!bs) else J false) else J false)) else (bif !b2 then (bif !b4 then J (!bs) else J false) else J false)))
      else (bif !b3 then (bif bl then J true else (bif !b2 then (bif !b4 then J (!bs) else J false) else J false)) else (bif !b2 then (bif !b4 then J (!bs) else J false) else J false)))) =
    J (b0 || ((!b1 && !bn) || (!b3 && bl) || (!b2 && !b4 && !bs))) := by
  cases b0 <;> cases b1 <;> cases b2 <;> cases b3 <;> cases b4 <;> cases bn <;> cases bs <;> cases bl <;> rfl
theorem told68_step {nt m : Nat} (hm : m < big) (h112 : Facts nt 112 (sp112 m)) : Facts nt 68 (sp68 (m + 1)) := fun args h rs h' hv => by
  unfold sp68 at hv
  split at hv
  · rename_i k n s T C l nest left
    cases hb : Nat.blt (szR l) (m + 1)
    · rw [hb] at hv; cases hv
    · rw [hb] at hv
      have hl : Nat.blt l.length big = true := by
        rw [nblt] at hb ⊢
        have : l.length ≤ szR l := szR_len l
        omega
      refine fact_tab Try.func68 [⟨112, sp112 m, h112⟩, ⟨38, sp38, told38 nt⟩] 1 ?_
      rw [f68_q, ← hv]
      have hlen : (exsOf l).length = l.length := by simp [exsOf]
      simp only [mayE, cond_true, hlen]
      have e112 : tab [⟨112, sp112 m, h112⟩, ⟨38, sp38, told38 nt⟩] 112 [AV.ps T 26 C l, AV.func (some 113) [AV.ptr 0 0 0 0, AV.ptr 1 0 0 0]] [AObj.box 96 [AV.ptr 2 0 0 0], AObj.box 3 [AV.int IntKind.i64 nest], AObj.box 3 [AV.int IntKind.i64 (IntKind.wrap IntKind.i64 (left - 1))]] =
          some ([.bool (!(mayEs (exsOf l) nest (w64 (left - 1))).1)], [.box 96 [.ptr 2 0 0 0], .box 3 [.int .i64 nest], .box 3 [.int .i64 (mayEs (exsOf l) nest (w64 (left - 1))).2]]) := by
        rw [tab_hit]; simp only [sp112, hb, hl, Bool.and_self, cond_true]; rfl
      have e38 : tab [⟨112, sp112 m, h112⟩, ⟨38, sp38, told38 nt⟩] 38 [AV.str s] [] = some ([.bool (mayName s)], []) := by
        rw [tab_miss rfl, tab_hit]; rfl
      have hx : ∀ b, f68_J3 nt (tab [⟨112, sp112 m, h112⟩, ⟨38, sp38, told38 nt⟩]) 1 k s T C l left nest b =
          some ([.bool (bif b then false else bif decide (k = 1) then true else bif decide (k = 2) then decide ((s.length : Int) ≤ 256) else bif decide (k = 4) then mayName s else bif decide (k = 3) then (bif decide (0 < nest) then (mayEs (exsOf l) nest (w64 (left - 1))).1 else false) else false)],
            [.box 3 [.int .i64 (bif b then w64 (left - 1) else bif decide (k = 1) then w64 (left - 1) else bif decide (k = 2) then w64 (left - 1) else bif decide (k = 4) then w64 (left - 1) else bif decide (k = 3) then (bif decide (0 < nest) then (mayEs (exsOf l) nest (w64 (left - 1))).2 else w64 (left - 1)) else w64 (left - 1))]]) := fun b => by
        simp only [f68_J3, e112, e38, Option.bind_some, toI_int, toB_bool, toCells_bool, toRow_box, nth_zero, nth_1, nth_2, Bool.not_not, w64]
        generalize decide (k = 1) = b1
        generalize decide (k = 2) = b2
        generalize decide (k = 3) = b3
        generalize decide (k = 4) = b4
        generalize decide (0 < nest) = b5
        cases b <;> cases b1 <;> cases b2 <;> cases b4 <;> cases b3 <;> cases b5 <;> rfl
      have hsel : f68 nt (tab [⟨112, sp112 m, h112⟩, ⟨38, sp38, told38 nt⟩]) 1 k n s T C l left nest = f68_J3 nt (tab [⟨112, sp112 m, h112⟩, ⟨38, sp38, told38 nt⟩]) 1 k s T C l left nest (decide (w64 (left - 1) < 0) || exBad k n s l.length) := by
        exact f68_sel (decide (w64 (left - 1) < 0)) (decide (k = 1)) (decide (k = 2)) (decide (k = 3)) (decide (k = 4)) (decide (n = 0)) (decide (s = [])) (decide (0 < (l.length : Int))) (fun b => f68_J3 nt (tab [⟨112, sp112 m, h112⟩, ⟨38, sp38, told38 nt⟩]) 1 k s T C l left nest b)
      rw [hsel, hx]
      generalize (decide (w64 (left - 1) < 0) || exBad k n s l.length) = b
      generalize decide (k = 1) = b1
      generalize decide (k = 2) = b2
      generalize decide (k = 3) = b3
      generalize decide (k = 4) = b4
      generalize decide (0 < nest) = b5
      cases b <;> cases b1 <;> cases b2 <;> cases b4 <;> cases b3 <;> cases b5 <;> rfl
  · cases hv
theorem told68 (nt : Nat) : ∀ m, m ≤ big → Facts nt 68 (sp68 m)
  | 0, _ => fun args h rs h' hv => by
    unfold sp68 at hv
    split at hv
    · rw [show Nat.blt (szR _) 0 = false from by cases hq : Nat.blt (szR _) 0; rfl; rw [nblt] at hq; omega] at hv; cases hv
    · cases hv
  | m + 1, hm => told68_step (by omega) (told112 (told136 (told113 (told68 nt m (by omega)))))
end Go.Ev.T
