/- Functions 40, 36, 124, 89 (MayNames, Get, slices.Clone, ownNames), decompiled, and what they come to. -/
import Derived.Test.YtljiamlnpmhpmaaF122
import Derived.Test.YtljiamlnpmhpmaaF87
set_option linter.unusedVariables false
set_option linter.unusedSimpArgs false
noncomputable section
namespace Go.Ev
theorem toTg_ps (t e : Nat) (c : Cp) (l : List Row) : AV.toTg (.ps t e c l) = t := rfl
theorem toCp_ps (t e : Nat) (c : Cp) (l : List Row) : AV.toCp (.ps t e c l) = c := rfl
/-- the five cells of a value, from cell j on -/
def vlAt (r : Row) (j : Nat) : Vl := .mk (nth .u r j).toI (nth .u r (j + 1)).toI (nth .u r (j + 2)).toS (vlsOf (nth .u r (j + 3)).toR) (nth .u r (j + 4)).toI
def nmOf (r : Row) : List UInt8 × Vl := ((nth .u r 0).toS, vlAt r 1)
def nmsOf (l : List Row) : List (List UInt8 × Vl) := l.map nmOf
def mayNm (p : List UInt8 × Vl) : Bool := mayName p.1 && mayV p.2
def mayNames (ns : List (List UInt8 × Vl)) : Bool := decide ((ns.length : Int) ≤ 64) && ns.all mayNm && !twice (ns.map (·.1))
def vl0 : Vl := .mk 0 0 [] [] 0
def getN (ns : List (List UInt8 × Vl)) (s : List UInt8) : Option Vl := (ns.find? fun p => decide (p.1 = s)).map (·.2)
end Go.Ev
namespace Go.Ev.T
open Go Go.Ev Go.Proofs
def f40_5_S (aT : Nat) (aC : Cp) (a : List Row) (i10 : Int) (l11 : List Row) (c12 : Cp) : St := St.mk [AV.u, AV.u, AV.u, AV.own 0 0, AV.u, AV.u, AV.u, AV.u, AV.u, AV.ps aT 73 aC a, AV.int IntKind.i64 (↑(List.length a) : Int), AV.int IntKind.i64 i10, AV.u, AV.u, AV.u, AV.u, AV.u, AV.u, AV.u, AV.u, AV.u, AV.u, AV.u, AV.u, AV.u, AV.u, AV.u, AV.u, AV.u, AV.u, AV.u, AV.u, AV.u, AV.u] [AObj.arr 9 l11 c12 0 0]
def f40_5_X0 (l11 : List Row) (c12 : Cp) : St := St.mk [AV.u, AV.u, AV.u, AV.own 0 0, AV.u, AV.u, AV.u, AV.u, AV.u, AV.u, AV.u, AV.u, AV.u, AV.u, AV.u, AV.u, AV.u, AV.u, AV.u, AV.u, AV.u, AV.u, AV.u, AV.u, AV.u, AV.u, AV.u, AV.u, AV.u, AV.u, AV.u, AV.u, AV.u, AV.u] [AObj.arr 9 l11 c12 0 0]
def f40_5_X1 (a : List Row) (i10 : Int) (l11 : List Row) (c12 : Cp) : St := St.mk [AV.u, AV.u, AV.bool false, AV.own 0 0, AV.u, AV.u, AV.u, AV.u, AV.u, AV.u, AV.u, AV.u, AV.u, AV.u, AV.u, AV.u, AV.u, AV.u, AV.u, AV.u, AV.u, AV.u, AV.u, AV.u, AV.u, AV.u, AV.u, AV.u, AV.u, AV.u, AV.u, AV.u, AV.u, AV.u] [AObj.arr 9 l11 c12 0 0, AObj.box 73 [AV.str (AV.toS (nth AV.u (nth [] a (Int.toNat i10)) 0)), AV.int IntKind.u8 (AV.toI (nth AV.u (nth [] a (Int.toNat i10)) 1)), AV.int IntKind.i64 (AV.toI (nth AV.u (nth [] a (Int.toNat i10)) 2)), AV.str (AV.toS (nth AV.u (nth [] a (Int.toNat i10)) 3)), AV.ps (AV.toTg (nth AV.u (nth [] a (Int.toNat i10)) 4)) 34 (AV.toCp (nth AV.u (nth [] a (Int.toNat i10)) 4)) (AV.toR (nth AV.u (nth [] a (Int.toNat i10)) 4)), AV.int IntKind.i64 (AV.toI (nth AV.u (nth [] a (Int.toNat i10)) 5))]]
def f40_J8 {ρ : Type} (nt : Nat) (X : Call') (n : Nat) (kN : Int → List Row → Cp → Option ρ) (x1 : Int → List Row → Cp → Option ρ) (a : List Row) (i10 : Int) (l11 : List Row) (c12 : Cp) (b15 : Bool) : Option ρ :=
  (bif b15 then x1 i10 l11 c12 else (bif Nat.ble ((List.length l11 + 1) * 16) 1099511627776 then kN (IntKind.wrap IntKind.i64 (i10 + 1)) (l11 ++ [[AV.str (AV.toS (nth AV.u (nth [] a (Int.toNat i10)) 0))]]) (Cp.mk (Cp.nl c12 && false) false) else none))
def f40_5 {ρ : Type} (nt : Nat) (X : Call') (n : Nat) (kN : Int → List Row → Cp → Option ρ) (x1 : Int → List Row → Cp → Option ρ) (x0 : List Row → Cp → Option ρ) (a : List Row) (i10 : Int) (l11 : List Row) (c12 : Cp) : Option ρ :=
  (bif decide (i10 < (↑(List.length a) : Int)) then (bif decide (0 ≤ i10) && decide (i10 < (↑(List.length a) : Int)) then ((X 38 [AV.str (AV.toS (nth AV.u (nth [] a (Int.toNat i10)) 0))] []).bind fun r13 => (bif !AV.toB (nth AV.u (AV.toCells (nth AV.u (Prod.fst r13) 0)) 0) then f40_J8 nt X n kN x1 a i10 l11 c12 (true) else ((X 64 [AV.agg [AV.int IntKind.u8 (AV.toI (nth AV.u (nth [] a (Int.toNat i10)) 1)), AV.int IntKind.i64 (AV.toI (nth AV.u (nth [] a (Int.toNat i10)) 2)), AV.str (AV.toS (nth AV.u (nth [] a (Int.toNat i10)) 3)), AV.ps (AV.toTg (nth AV.u (nth [] a (Int.toNat i10)) 4)) 34 (AV.toCp (nth AV.u (nth [] a (Int.toNat i10)) 4)) (AV.toR (nth AV.u (nth [] a (Int.toNat i10)) 4)), AV.int IntKind.i64 (AV.toI (nth AV.u (nth [] a (Int.toNat i10)) 5))]] []).bind fun r14 => f40_J8 nt X n kN x1 a i10 l11 c12 (!AV.toB (nth AV.u (AV.toCells (nth AV.u (Prod.fst r14) 0)) 0))))) else none) else x0 l11 c12)
theorem f40_5_q {ρ : Type} (nt : Nat) (X : Call') (n : Nat) (kN : St → Option ρ) (kX : Nat → St → Option ρ) (kR : St → Option ρ) (aT : Nat) (aC : Cp) (a : List Row) (i10 : Int) (l11 : List Row) (c12 : Cp) : stepL ⟨L, F, nt, X⟩ ⟨0, lookV V 40⟩ n (subc (bodyOf Try.f40) [1, 1, 1, 0, 1, 0, 0]) (look (lookV V 40) 5).xl kX kR (fun s => kN ((clean 0 1 (look (lookV V 40) 5) [(Pl.mk 3 none 9, some 0)]) s)) (f40_5_S aT aC a i10 l11 c12) = f40_5 nt X n (fun i10 l11 c12 => kN (f40_5_S aT aC a i10 l11 c12)) (fun i10 l11 c12 => kR (f40_5_X1 a i10 l11 c12)) (fun l11 c12 => kX 0 (f40_5_X0 l11 c12)) a i10 l11 c12 := by kernel_rfl
def f40_5_L {ρ : Type} (nt : Nat) (X : Call') (n : Nat) (x0 : List Row → Cp → Option ρ) (x1 : Int → List Row → Cp → Option ρ) (a : List Row) : Nat → Int → List Row → Cp → Option ρ
  | 0, _, _, _ => none
  | m + 1, i10, l11, c12 => f40_5 nt X n (fun i10 l11 c12 => f40_5_L nt X n x0 x1 a m i10 l11 c12) x1 x0 a i10 l11 c12
theorem f40_5_e {ρ : Type} (nt : Nat) (X : Call') (n : Nat) (kX : Nat → St → Option ρ) (kR : St → Option ρ) (aT : Nat) (aC : Cp) (a : List Row) (m : Nat) (i10 : Int) (l11 : List Row) (c12 : Cp) : loopN (stepL ⟨L, F, nt, X⟩ ⟨0, lookV V 40⟩ n (subc (bodyOf Try.f40) [1, 1, 1, 0, 1, 0, 0]) (look (lookV V 40) 5).xl kX kR) (clean 0 1 (look (lookV V 40) 5) [(Pl.mk 3 none 9, some 0)]) m (f40_5_S aT aC a i10 l11 c12) = f40_5_L nt X n (fun l11 c12 => kX 0 (f40_5_X0 l11 c12)) (fun i10 l11 c12 => kR (f40_5_X1 a i10 l11 c12)) a m i10 l11 c12 :=
  loopN_ind (α := Int × List Row × Cp) (fun w => ((fun i10 l11 c12 => (f40_5_S aT aC a i10 l11 c12))) w.1 w.2.1 w.2.2) (fun k w => ((fun i10 l11 c12 => f40_5 nt X n (fun i10 l11 c12 => k (i10, l11, c12)) (fun i10 l11 c12 => kR (f40_5_X1 a i10 l11 c12)) (fun l11 c12 => kX 0 (f40_5_X0 l11 c12)) a i10 l11 c12)) w.1 w.2.1 w.2.2) (fun m w => ((fun i10 l11 c12 => f40_5_L nt X n (fun l11 c12 => kX 0 (f40_5_X0 l11 c12)) (fun i10 l11 c12 => kR (f40_5_X1 a i10 l11 c12)) a m i10 l11 c12)) w.1 w.2.1 w.2.2) (fun _ => rfl) (fun _ _ => rfl) (fun kN w => ((fun i10 l11 c12 => f40_5_q nt X n kN kX kR aT aC a i10 l11 c12)) w.1 w.2.1 w.2.2) m (i10, l11, c12)
def f40_5_P0 (nt : Nat) (X : Call') (n : Nat) (l11 : List Row) (c12 : Cp) : Option (List AV × List AObj) :=
  ((X 86 [AV.ps nt 9 (Cp.mk (Cp.nl c12) false) l11] []).bind fun r16 => some (([AV.bool !AV.toB (nth AV.u (AV.toCells (nth AV.u (Prod.fst r16) 0)) 0)], [])))
theorem f40_5_P0_q (nt : Nat) (X : Call') (n : Nat) (l11 : List Row) (c12 : Cp) : (kNf ⟨L, F, nt, X⟩ ⟨0, lookV V 40⟩ n (finish ⟨L, F, nt, X⟩ Try.f40 (sig F 40).res []) (finish ⟨L, F, nt, X⟩ Try.f40 (sig F 40).res []) (fun _ _ => none) [.block 0, .seq (subc (bodyOf Try.f40) [1, 1, 1, 1])]).2 0 (f40_5_X0 l11 c12) = f40_5_P0 nt X n l11 c12 := by kernel_rfl
def f40_5_P1 (nt : Nat) (X : Call') (n : Nat)  : Option (List AV × List AObj) :=
  some (([AV.bool false], []))
theorem f40_5_P1_q (nt : Nat) (X : Call') (n : Nat) (a : List Row) (i10 : Int) (l11 : List Row) (c12 : Cp) : (finish ⟨L, F, nt, X⟩ Try.f40 (sig F 40).res []) (f40_5_X1 a i10 l11 c12) = f40_5_P1 nt X n  := by kernel_rfl
def f40_R (nt : Nat) (X : Call') (n : Nat) (L0 : Int → List Row → Cp → Option (List AV × List AObj)) (a : List Row) : Option (List AV × List AObj) :=
  (bif decide (64 < (↑(List.length a) : Int)) then some (([AV.bool false], [])) else L0  (0) ([]) (Cp.mk true true))
def f40 (nt : Nat) (X : Call') (n : Nat) (a : List Row) : Option (List AV × List AObj) :=
  f40_R nt X n (fun i10 l11 c12 => f40_5_L nt X n (fun l11 c12 => f40_5_P0 nt X n l11 c12) (fun i10 l11 c12 => f40_5_P1 nt X n ) a n i10 l11 c12) a
theorem f40_q (nt : Nat) (X : Call') (n : Nat) (aT : Nat) (aC : Cp) (a : List Row) : evBody ⟨L, F, nt, X⟩ (lookV V 40) n Try.f40 (sig F 40).res [AV.ps aT 73 aC a] [] = f40 nt X n a :=
  Eq.trans (b := f40_R nt X n (fun i10 l11 c12 => loopN (stepL ⟨L, F, nt, X⟩ ⟨0, lookV V 40⟩ n (subc (bodyOf Try.f40) [1, 1, 1, 0, 1, 0, 0]) (look (lookV V 40) 5).xl (kNf ⟨L, F, nt, X⟩ ⟨0, lookV V 40⟩ n (finish ⟨L, F, nt, X⟩ Try.f40 (sig F 40).res []) (finish ⟨L, F, nt, X⟩ Try.f40 (sig F 40).res []) (fun _ _ => none) [.block 0, .seq (subc (bodyOf Try.f40) [1, 1, 1, 1])]).2 (finish ⟨L, F, nt, X⟩ Try.f40 (sig F 40).res [])) (clean 0 1 (look (lookV V 40) 5) [(Pl.mk 3 none 9, some 0)]) n (f40_5_S aT aC a i10 l11 c12)) a) (by kernel_rfl) (congrArg (fun q => q a) (congrArg (f40_R nt X n ) (show (fun i10 l11 c12 => loopN (stepL ⟨L, F, nt, X⟩ ⟨0, lookV V 40⟩ n (subc (bodyOf Try.f40) [1, 1, 1, 0, 1, 0, 0]) (look (lookV V 40) 5).xl (kNf ⟨L, F, nt, X⟩ ⟨0, lookV V 40⟩ n (finish ⟨L, F, nt, X⟩ Try.f40 (sig F 40).res []) (finish ⟨L, F, nt, X⟩ Try.f40 (sig F 40).res []) (fun _ _ => none) [.block 0, .seq (subc (bodyOf Try.f40) [1, 1, 1, 1])]).2 (finish ⟨L, F, nt, X⟩ Try.f40 (sig F 40).res [])) (clean 0 1 (look (lookV V 40) 5) [(Pl.mk 3 none 9, some 0)]) n (f40_5_S aT aC a i10 l11 c12)) = _ from funext fun i10 => funext fun l11 => funext fun c12 => (f40_5_e nt X n (kNf ⟨L, F, nt, X⟩ ⟨0, lookV V 40⟩ n (finish ⟨L, F, nt, X⟩ Try.f40 (sig F 40).res []) (finish ⟨L, F, nt, X⟩ Try.f40 (sig F 40).res []) (fun _ _ => none) [.block 0, .seq (subc (bodyOf Try.f40) [1, 1, 1, 1])]).2 (finish ⟨L, F, nt, X⟩ Try.f40 (sig F 40).res []) aT aC a n i10 l11 c12).trans (congrArg (fun q => q a n i10 l11 c12) (congr (congrArg (f40_5_L nt X n) (show (fun l11 c12 => (kNf ⟨L, F, nt, X⟩ ⟨0, lookV V 40⟩ n (finish ⟨L, F, nt, X⟩ Try.f40 (sig F 40).res []) (finish ⟨L, F, nt, X⟩ Try.f40 (sig F 40).res []) (fun _ _ => none) [.block 0, .seq (subc (bodyOf Try.f40) [1, 1, 1, 1])]).2 0 (f40_5_X0 l11 c12)) = (fun l11 c12 => f40_5_P0 nt X n l11 c12) from funext fun l11 => funext fun c12 => (f40_5_P0_q nt X n l11 c12))) (show (fun i10 l11 c12 => (finish ⟨L, F, nt, X⟩ Try.f40 (sig F 40).res []) (f40_5_X1 a i10 l11 c12)) = (fun i10 l11 c12 => f40_5_P1 nt X n ) from funext fun i10 => funext fun l11 => funext fun c12 => (f40_5_P1_q nt X n a i10 l11 c12)))))))

def f36_2_S (aT : Nat) (aC : Cp) (a : List Row) (b : List UInt8) (i9 : Int) : St := St.mk [AV.u, AV.str b, AV.u, AV.u, AV.ptr 0 0 0 0, AV.u, AV.u, AV.u, AV.u, AV.u, AV.ps aT 73 aC a, AV.int IntKind.i64 (↑(List.length a) : Int), AV.int IntKind.i64 i9, AV.u, AV.u, AV.u, AV.u, AV.u, AV.u, AV.u, AV.u, AV.u, AV.u, AV.u, AV.u, AV.u, AV.u, AV.u, AV.u] [AObj.box 34 [AV.int IntKind.u8 0, AV.int IntKind.i64 0, AV.str [], AV.ps 0 34 (Cp.mk true true) [], AV.int IntKind.i64 0]]
def f36_2_X0  : St := St.mk [AV.u, AV.u, AV.u, AV.u, AV.ptr 0 0 0 0, AV.u, AV.u, AV.u, AV.u, AV.u, AV.u, AV.u, AV.u, AV.u, AV.u, AV.u, AV.u, AV.u, AV.u, AV.u, AV.u, AV.u, AV.u, AV.u, AV.u, AV.u, AV.u, AV.u, AV.u] [AObj.box 34 [AV.int IntKind.u8 0, AV.int IntKind.i64 0, AV.str [], AV.ps 0 34 (Cp.mk true true) [], AV.int IntKind.i64 0]]
def f36_2_X1 (a : List Row) (i9 : Int) (r10 : List AV × List AObj) : St := St.mk [AV.u, AV.u, AV.u, AV.u, AV.ptr 0 0 0 0, AV.bool true, AV.u, AV.u, AV.u, AV.u, AV.u, AV.u, AV.u, AV.u, AV.u, AV.u, AV.u, AV.u, AV.u, AV.u, AV.u, AV.u, AV.u, AV.u, AV.u, AV.u, AV.u, AV.u, AV.u] [AObj.box 34 [AV.int IntKind.u8 (AV.toI (nth AV.u (AV.toCells (nth AV.u (Prod.fst r10) 0)) 0)), AV.int IntKind.i64 (AV.toI (nth AV.u (AV.toCells (nth AV.u (Prod.fst r10) 0)) 1)), AV.str (AV.toS (nth AV.u (AV.toCells (nth AV.u (Prod.fst r10) 0)) 2)), AV.ps (AV.toTg (nth AV.u (AV.toCells (nth AV.u (Prod.fst r10) 0)) 3)) 34 (AV.toCp (nth AV.u (AV.toCells (nth AV.u (Prod.fst r10) 0)) 3)) (AV.toR (nth AV.u (AV.toCells (nth AV.u (Prod.fst r10) 0)) 3)), AV.int IntKind.i64 (AV.toI (nth AV.u (AV.toCells (nth AV.u (Prod.fst r10) 0)) 4))], AObj.box 73 [AV.str (AV.toS (nth AV.u (nth [] a (Int.toNat i9)) 0)), AV.int IntKind.u8 (AV.toI (nth AV.u (nth [] a (Int.toNat i9)) 1)), AV.int IntKind.i64 (AV.toI (nth AV.u (nth [] a (Int.toNat i9)) 2)), AV.str (AV.toS (nth AV.u (nth [] a (Int.toNat i9)) 3)), AV.ps (AV.toTg (nth AV.u (nth [] a (Int.toNat i9)) 4)) 34 (AV.toCp (nth AV.u (nth [] a (Int.toNat i9)) 4)) (AV.toR (nth AV.u (nth [] a (Int.toNat i9)) 4)), AV.int IntKind.i64 (AV.toI (nth AV.u (nth [] a (Int.toNat i9)) 5))], AObj.box 34 [AV.int IntKind.u8 (AV.toI (nth AV.u (AV.toCells (nth AV.u (Prod.fst r10) 0)) 0)), AV.int IntKind.i64 (AV.toI (nth AV.u (AV.toCells (nth AV.u (Prod.fst r10) 0)) 1)), AV.str (AV.toS (nth AV.u (AV.toCells (nth AV.u (Prod.fst r10) 0)) 2)), AV.ps (AV.toTg (nth AV.u (AV.toCells (nth AV.u (Prod.fst r10) 0)) 3)) 34 (AV.toCp (nth AV.u (AV.toCells (nth AV.u (Prod.fst r10) 0)) 3)) (AV.toR (nth AV.u (AV.toCells (nth AV.u (Prod.fst r10) 0)) 3)), AV.int IntKind.i64 (AV.toI (nth AV.u (AV.toCells (nth AV.u (Prod.fst r10) 0)) 4))]]
def f36_2 {ρ : Type} (nt : Nat) (X : Call') (n : Nat) (kN : Int → Option ρ) (x1 : Int → List AV × List AObj → Option ρ) (x0 : Option ρ) (a : List Row) (b : List UInt8) (i9 : Int) : Option ρ :=
  (bif decide (i9 < (↑(List.length a) : Int)) then (bif decide (0 ≤ i9) && decide (i9 < (↑(List.length a) : Int)) then (bif decide (AV.toS (nth AV.u (nth [] a (Int.toNat i9)) 0) = b) then ((X 85 [AV.agg [AV.int IntKind.u8 (AV.toI (nth AV.u (nth [] a (Int.toNat i9)) 1)), AV.int IntKind.i64 (AV.toI (nth AV.u (nth [] a (Int.toNat i9)) 2)), AV.str (AV.toS (nth AV.u (nth [] a (Int.toNat i9)) 3)), AV.ps (AV.toTg (nth AV.u (nth [] a (Int.toNat i9)) 4)) 34 (AV.toCp (nth AV.u (nth [] a (Int.toNat i9)) 4)) (AV.toR (nth AV.u (nth [] a (Int.toNat i9)) 4)), AV.int IntKind.i64 (AV.toI (nth AV.u (nth [] a (Int.toNat i9)) 5))]] []).bind fun r10 => x1 i9 r10) else kN (IntKind.wrap IntKind.i64 (i9 + 1))) else none) else x0 )
theorem f36_2_q {ρ : Type} (nt : Nat) (X : Call') (n : Nat) (kN : St → Option ρ) (kX : Nat → St → Option ρ) (kR : St → Option ρ) (aT : Nat) (aC : Cp) (a : List Row) (b : List UInt8) (i9 : Int) : stepL ⟨L, F, nt, X⟩ ⟨0, lookV V 36⟩ n (subc (bodyOf Try.f36) [1, 0, 1, 0, 0]) (look (lookV V 36) 2).xl kX kR (fun s => kN ((clean 0 1 (look (lookV V 36) 2) []) s)) (f36_2_S aT aC a b i9) = f36_2 nt X n (fun i9 => kN (f36_2_S aT aC a b i9)) (fun i9 r10 => kR (f36_2_X1 a i9 r10)) (kX 0 (f36_2_X0 )) a b i9 := by kernel_rfl
def f36_2_L {ρ : Type} (nt : Nat) (X : Call') (n : Nat) (x0 : Option ρ) (x1 : Int → List AV × List AObj → Option ρ) (a : List Row) (b : List UInt8) : Nat → Int → Option ρ
  | 0, _ => none
  | m + 1, i9 => f36_2 nt X n (fun i9 => f36_2_L nt X n x0 x1 a b m i9) x1 x0 a b i9
theorem f36_2_e {ρ : Type} (nt : Nat) (X : Call') (n : Nat) (kX : Nat → St → Option ρ) (kR : St → Option ρ) (aT : Nat) (aC : Cp) (a : List Row) (b : List UInt8) (m : Nat) (i9 : Int) : loopN (stepL ⟨L, F, nt, X⟩ ⟨0, lookV V 36⟩ n (subc (bodyOf Try.f36) [1, 0, 1, 0, 0]) (look (lookV V 36) 2).xl kX kR) (clean 0 1 (look (lookV V 36) 2) []) m (f36_2_S aT aC a b i9) = f36_2_L nt X n (kX 0 (f36_2_X0 )) (fun i9 r10 => kR (f36_2_X1 a i9 r10)) a b m i9 :=
  loopN_ind (α := Int) (fun w => ((fun i9 => (f36_2_S aT aC a b i9))) w) (fun k w => ((fun i9 => f36_2 nt X n (fun i9 => k (i9)) (fun i9 r10 => kR (f36_2_X1 a i9 r10)) (kX 0 (f36_2_X0 )) a b i9)) w) (fun m w => ((fun i9 => f36_2_L nt X n (kX 0 (f36_2_X0 )) (fun i9 r10 => kR (f36_2_X1 a i9 r10)) a b m i9)) w) (fun _ => rfl) (fun _ _ => rfl) (fun kN w => ((fun i9 => f36_2_q nt X n kN kX kR aT aC a b i9)) w) m (i9)
def f36_2_P0 (nt : Nat) (X : Call') (n : Nat)  : Option (List AV × List AObj) :=
  some (([AV.agg [AV.int IntKind.u8 0, AV.int IntKind.i64 0, AV.str [], AV.ps 0 34 (Cp.mk true true) [], AV.int IntKind.i64 0], AV.bool false], []))
theorem f36_2_P0_q (nt : Nat) (X : Call') (n : Nat)  : (kNf ⟨L, F, nt, X⟩ ⟨0, lookV V 36⟩ n (finish ⟨L, F, nt, X⟩ Try.f36 (sig F 36).res []) (finish ⟨L, F, nt, X⟩ Try.f36 (sig F 36).res []) (fun _ _ => none) [.block 0, .seq (subc (bodyOf Try.f36) [1, 1])]).2 0 (f36_2_X0 ) = f36_2_P0 nt X n  := by kernel_rfl
def f36_2_P1 (nt : Nat) (X : Call') (n : Nat) (r10 : List AV × List AObj) : Option (List AV × List AObj) :=
  some (([AV.agg [AV.int IntKind.u8 (AV.toI (nth AV.u (AV.toCells (nth AV.u (Prod.fst r10) 0)) 0)), AV.int IntKind.i64 (AV.toI (nth AV.u (AV.toCells (nth AV.u (Prod.fst r10) 0)) 1)), AV.str (AV.toS (nth AV.u (AV.toCells (nth AV.u (Prod.fst r10) 0)) 2)), AV.ps (AV.toTg (nth AV.u (AV.toCells (nth AV.u (Prod.fst r10) 0)) 3)) 34 (AV.toCp (nth AV.u (AV.toCells (nth AV.u (Prod.fst r10) 0)) 3)) (AV.toR (nth AV.u (AV.toCells (nth AV.u (Prod.fst r10) 0)) 3)), AV.int IntKind.i64 (AV.toI (nth AV.u (AV.toCells (nth AV.u (Prod.fst r10) 0)) 4))], AV.bool true], []))
theorem f36_2_P1_q (nt : Nat) (X : Call') (n : Nat) (a : List Row) (i9 : Int) (r10 : List AV × List AObj) : (finish ⟨L, F, nt, X⟩ Try.f36 (sig F 36).res []) (f36_2_X1 a i9 r10) = f36_2_P1 nt X n r10 := by kernel_rfl
def f36_R (nt : Nat) (X : Call') (n : Nat) (L0 : Int → Option (List AV × List AObj))  : Option (List AV × List AObj) :=
  L0  (0)
def f36 (nt : Nat) (X : Call') (n : Nat) (a : List Row) (b : List UInt8) : Option (List AV × List AObj) :=
  f36_R nt X n (fun i9 => f36_2_L nt X n (f36_2_P0 nt X n ) (fun i9 r10 => f36_2_P1 nt X n r10) a b n i9) 
theorem f36_q (nt : Nat) (X : Call') (n : Nat) (aT : Nat) (aC : Cp) (a : List Row) (b : List UInt8) : evBody ⟨L, F, nt, X⟩ (lookV V 36) n Try.f36 (sig F 36).res [AV.ps aT 73 aC a, AV.str b] [] = f36 nt X n a b :=
  Eq.trans (b := f36_R nt X n (fun i9 => loopN (stepL ⟨L, F, nt, X⟩ ⟨0, lookV V 36⟩ n (subc (bodyOf Try.f36) [1, 0, 1, 0, 0]) (look (lookV V 36) 2).xl (kNf ⟨L, F, nt, X⟩ ⟨0, lookV V 36⟩ n (finish ⟨L, F, nt, X⟩ Try.f36 (sig F 36).res []) (finish ⟨L, F, nt, X⟩ Try.f36 (sig F 36).res []) (fun _ _ => none) [.block 0, .seq (subc (bodyOf Try.f36) [1, 1])]).2 (finish ⟨L, F, nt, X⟩ Try.f36 (sig F 36).res [])) (clean 0 1 (look (lookV V 36) 2) []) n (f36_2_S aT aC a b i9)) ) (by kernel_rfl) (congrArg (fun q => q ) (congrArg (f36_R nt X n ) (show (fun i9 => loopN (stepL ⟨L, F, nt, X⟩ ⟨0, lookV V 36⟩ n (subc (bodyOf Try.f36) [1, 0, 1, 0, 0]) (look (lookV V 36) 2).xl (kNf ⟨L, F, nt, X⟩ ⟨0, lookV V 36⟩ n (finish ⟨L, F, nt, X⟩ Try.f36 (sig F 36).res []) (finish ⟨L, F, nt, X⟩ Try.f36 (sig F 36).res []) (fun _ _ => none) [.block 0, .seq (subc (bodyOf Try.f36) [1, 1])]).2 (finish ⟨L, F, nt, X⟩ Try.f36 (sig F 36).res [])) (clean 0 1 (look (lookV V 36) 2) []) n (f36_2_S aT aC a b i9)) = _ from funext fun i9 => (f36_2_e nt X n (kNf ⟨L, F, nt, X⟩ ⟨0, lookV V 36⟩ n (finish ⟨L, F, nt, X⟩ Try.f36 (sig F 36).res []) (finish ⟨L, F, nt, X⟩ Try.f36 (sig F 36).res []) (fun _ _ => none) [.block 0, .seq (subc (bodyOf Try.f36) [1, 1])]).2 (finish ⟨L, F, nt, X⟩ Try.f36 (sig F 36).res []) aT aC a b n i9).trans (congrArg (fun q => q a b n i9) (congr (congrArg (f36_2_L nt X n) (show ((kNf ⟨L, F, nt, X⟩ ⟨0, lookV V 36⟩ n (finish ⟨L, F, nt, X⟩ Try.f36 (sig F 36).res []) (finish ⟨L, F, nt, X⟩ Try.f36 (sig F 36).res []) (fun _ _ => none) [.block 0, .seq (subc (bodyOf Try.f36) [1, 1])]).2 0 (f36_2_X0 )) = (f36_2_P0 nt X n ) from (f36_2_P0_q nt X n ))) (show (fun i9 r10 => (finish ⟨L, F, nt, X⟩ Try.f36 (sig F 36).res []) (f36_2_X1 a i9 r10)) = (fun i9 r10 => f36_2_P1 nt X n r10) from funext fun i9 => funext fun r10 => (f36_2_P1_q nt X n a i9 r10)))))))

def f124 (nt : Nat) (X : Call') (n : Nat) (aC : Cp) (a : List Row) : Option (List AV × List AObj) :=
  (bif Cp.nl aC then some (([AV.own 0 0], [AObj.arr 73 [] (Cp.mk true true) 0 0])) else (bif Nat.ble ((0 + List.length a) * 80) 1099511627776 then some (([AV.own 0 0], [AObj.arr 73 ([] ++ a) (Cp.mk false false) 0 0])) else none))
theorem f124_q (nt : Nat) (X : Call') (n : Nat) (aT : Nat) (aC : Cp) (a : List Row) : evBody ⟨L, F, nt, X⟩ (lookV V 124) n Try.f124 (sig F 124).res [AV.ps aT 73 aC a] [] = f124 nt X n aC a := by kernel_rfl

def f89_3_S (r7 : List AV × List AObj) (i9 : Int) (l10 : List Row) : St := St.mk [AV.own 0 0, AV.u, AV.u, AV.u, AV.u, AV.u, AV.u, AV.own 0 0, AV.int IntKind.i64 (↑(List.length (AObj.toRows (nth AObj.dead (Prod.snd r7) 0))) : Int), AV.int IntKind.i64 i9, AV.u, AV.u, AV.u, AV.u, AV.u, AV.u, AV.u, AV.u, AV.u, AV.u, AV.u, AV.u, AV.u, AV.u, AV.u, AV.u] [AObj.arr 73 l10 (AObj.toC (nth AObj.dead (Prod.snd r7) 0)) 0 (AObj.toFz (nth AObj.dead (Prod.snd r7) 0))]
def f89_3_X0 (r7 : List AV × List AObj) (l10 : List Row) : St := St.mk [AV.own 0 0, AV.u, AV.u, AV.u, AV.u, AV.u, AV.u, AV.u, AV.u, AV.u, AV.u, AV.u, AV.u, AV.u, AV.u, AV.u, AV.u, AV.u, AV.u, AV.u, AV.u, AV.u, AV.u, AV.u, AV.u, AV.u] [AObj.arr 73 l10 (AObj.toC (nth AObj.dead (Prod.snd r7) 0)) 0 (AObj.toFz (nth AObj.dead (Prod.snd r7) 0))]
def f89_3 {ρ : Type} (nt : Nat) (X : Call') (n : Nat) (kN : Int → List Row → Option ρ) (x0 : List Row → Option ρ) (r7 : List AV × List AObj) (i9 : Int) (l10 : List Row) : Option ρ :=
  (bif decide (i9 < (↑(List.length (AObj.toRows (nth AObj.dead (Prod.snd r7) 0))) : Int)) then (bif decide (0 ≤ i9) && decide (i9 < (↑(List.length l10) : Int)) then ((X 85 [AV.agg [AV.int IntKind.u8 (AV.toI (nth AV.u (nth [] l10 (Int.toNat i9)) 1)), AV.int IntKind.i64 (AV.toI (nth AV.u (nth [] l10 (Int.toNat i9)) 2)), AV.str (AV.toS (nth AV.u (nth [] l10 (Int.toNat i9)) 3)), AV.ps (AV.toTg (nth AV.u (nth [] l10 (Int.toNat i9)) 4)) 34 (AV.toCp (nth AV.u (nth [] l10 (Int.toNat i9)) 4)) (AV.toR (nth AV.u (nth [] l10 (Int.toNat i9)) 4)), AV.int IntKind.i64 (AV.toI (nth AV.u (nth [] l10 (Int.toNat i9)) 5))]] []).bind fun r11 => (bif decide (0 ≤ i9) && decide (i9 < (↑(List.length l10) : Int)) then (bif Nat.ble (AObj.toFz (nth AObj.dead (Prod.snd r7) 0)) (Int.toNat i9) && true && true then kN (IntKind.wrap IntKind.i64 (i9 + 1)) (upd l10 (Int.toNat i9) [AV.str (AV.toS (nth AV.u (nth [] l10 (Int.toNat i9)) 0)), AV.int IntKind.u8 (AV.toI (nth AV.u (AV.toCells (nth AV.u (Prod.fst r11) 0)) 0)), AV.int IntKind.i64 (AV.toI (nth AV.u (AV.toCells (nth AV.u (Prod.fst r11) 0)) 1)), AV.str (AV.toS (nth AV.u (AV.toCells (nth AV.u (Prod.fst r11) 0)) 2)), AV.ps (AV.toTg (nth AV.u (AV.toCells (nth AV.u (Prod.fst r11) 0)) 3)) 34 (AV.toCp (nth AV.u (AV.toCells (nth AV.u (Prod.fst r11) 0)) 3)) (AV.toR (nth AV.u (AV.toCells (nth AV.u (Prod.fst r11) 0)) 3)), AV.int IntKind.i64 (AV.toI (nth AV.u (AV.toCells (nth AV.u (Prod.fst r11) 0)) 4))]) else none) else none)) else none) else x0 l10)
theorem f89_3_q {ρ : Type} (nt : Nat) (X : Call') (n : Nat) (kN : St → Option ρ) (kX : Nat → St → Option ρ) (kR : St → Option ρ) (r7 : List AV × List AObj) (i9 : Int) (l10 : List Row) : stepL ⟨L, F, nt, X⟩ ⟨0, lookV V 89⟩ n (subc (bodyOf Try.f89) [1, 1, 0, 1, 0, 0]) (look (lookV V 89) 3).xl kX kR (fun s => kN ((clean 0 1 (look (lookV V 89) 3) []) s)) (f89_3_S r7 i9 l10) = f89_3 nt X n (fun i9 l10 => kN (f89_3_S r7 i9 l10)) (fun l10 => kX 0 (f89_3_X0 r7 l10)) r7 i9 l10 := by kernel_rfl
def f89_3_L {ρ : Type} (nt : Nat) (X : Call') (n : Nat) (x0 : List Row → Option ρ) (r7 : List AV × List AObj) : Nat → Int → List Row → Option ρ
  | 0, _, _ => none
  | m + 1, i9, l10 => f89_3 nt X n (fun i9 l10 => f89_3_L nt X n x0 r7 m i9 l10) x0 r7 i9 l10
theorem f89_3_e {ρ : Type} (nt : Nat) (X : Call') (n : Nat) (kX : Nat → St → Option ρ) (kR : St → Option ρ) (r7 : List AV × List AObj) (m : Nat) (i9 : Int) (l10 : List Row) : loopN (stepL ⟨L, F, nt, X⟩ ⟨0, lookV V 89⟩ n (subc (bodyOf Try.f89) [1, 1, 0, 1, 0, 0]) (look (lookV V 89) 3).xl kX kR) (clean 0 1 (look (lookV V 89) 3) []) m (f89_3_S r7 i9 l10) = f89_3_L nt X n (fun l10 => kX 0 (f89_3_X0 r7 l10)) r7 m i9 l10 :=
  loopN_ind (α := Int × List Row) (fun w => ((fun i9 l10 => (f89_3_S r7 i9 l10))) w.1 w.2) (fun k w => ((fun i9 l10 => f89_3 nt X n (fun i9 l10 => k (i9, l10)) (fun l10 => kX 0 (f89_3_X0 r7 l10)) r7 i9 l10)) w.1 w.2) (fun m w => ((fun i9 l10 => f89_3_L nt X n (fun l10 => kX 0 (f89_3_X0 r7 l10)) r7 m i9 l10)) w.1 w.2) (fun _ => rfl) (fun _ _ => rfl) (fun kN w => ((fun i9 l10 => f89_3_q nt X n kN kX kR r7 i9 l10)) w.1 w.2) m (i9, l10)
def f89_3_P0 (nt : Nat) (X : Call') (n : Nat) (r7 : List AV × List AObj) (l10 : List Row) : Option (List AV × List AObj) :=
  some (([AV.own 0 0], [AObj.arr 73 l10 (AObj.toC (nth AObj.dead (Prod.snd r7) 0)) 0 (AObj.toFz (nth AObj.dead (Prod.snd r7) 0))]))
theorem f89_3_P0_q (nt : Nat) (X : Call') (n : Nat) (r7 : List AV × List AObj) (l10 : List Row) : (kNf ⟨L, F, nt, X⟩ ⟨0, lookV V 89⟩ n (finish ⟨L, F, nt, X⟩ Try.f89 (sig F 89).res []) (finish ⟨L, F, nt, X⟩ Try.f89 (sig F 89).res []) (fun _ _ => none) [.block 0, .seq (subc (bodyOf Try.f89) [1, 1, 1])]).2 0 (f89_3_X0 r7 l10) = f89_3_P0 nt X n r7 l10 := by kernel_rfl
def f89_R (nt : Nat) (X : Call') (n : Nat) (L0 : List AV × List AObj → Int → List Row → Option (List AV × List AObj)) (aT : Nat) (aC : Cp) (a : List Row) : Option (List AV × List AObj) :=
  ((X 124 [AV.ps aT 73 aC a] []).bind fun r7 => L0 r7 (0) (AObj.toRows (nth AObj.dead (Prod.snd r7) 0)))
def f89 (nt : Nat) (X : Call') (n : Nat) (aT : Nat) (aC : Cp) (a : List Row) : Option (List AV × List AObj) :=
  f89_R nt X n (fun r7 i9 l10 => f89_3_L nt X n (fun l10 => f89_3_P0 nt X n r7 l10) r7 n i9 l10) aT aC a
theorem f89_q (nt : Nat) (X : Call') (n : Nat) (aT : Nat) (aC : Cp) (a : List Row) : evBody ⟨L, F, nt, X⟩ (lookV V 89) n Try.f89 (sig F 89).res [AV.ps aT 73 aC a] [] = f89 nt X n aT aC a :=
  Eq.trans (b := f89_R nt X n (fun r7 i9 l10 => loopN (stepL ⟨L, F, nt, X⟩ ⟨0, lookV V 89⟩ n (subc (bodyOf Try.f89) [1, 1, 0, 1, 0, 0]) (look (lookV V 89) 3).xl (kNf ⟨L, F, nt, X⟩ ⟨0, lookV V 89⟩ n (finish ⟨L, F, nt, X⟩ Try.f89 (sig F 89).res []) (finish ⟨L, F, nt, X⟩ Try.f89 (sig F 89).res []) (fun _ _ => none) [.block 0, .seq (subc (bodyOf Try.f89) [1, 1, 1])]).2 (finish ⟨L, F, nt, X⟩ Try.f89 (sig F 89).res [])) (clean 0 1 (look (lookV V 89) 3) []) n (f89_3_S r7 i9 l10)) aT aC a) (by kernel_rfl) (congrArg (fun q => q aT aC a) (congrArg (f89_R nt X n ) (show (fun r7 i9 l10 => loopN (stepL ⟨L, F, nt, X⟩ ⟨0, lookV V 89⟩ n (subc (bodyOf Try.f89) [1, 1, 0, 1, 0, 0]) (look (lookV V 89) 3).xl (kNf ⟨L, F, nt, X⟩ ⟨0, lookV V 89⟩ n (finish ⟨L, F, nt, X⟩ Try.f89 (sig F 89).res []) (finish ⟨L, F, nt, X⟩ Try.f89 (sig F 89).res []) (fun _ _ => none) [.block 0, .seq (subc (bodyOf Try.f89) [1, 1, 1])]).2 (finish ⟨L, F, nt, X⟩ Try.f89 (sig F 89).res [])) (clean 0 1 (look (lookV V 89) 3) []) n (f89_3_S r7 i9 l10)) = _ from funext fun r7 => funext fun i9 => funext fun l10 => (f89_3_e nt X n (kNf ⟨L, F, nt, X⟩ ⟨0, lookV V 89⟩ n (finish ⟨L, F, nt, X⟩ Try.f89 (sig F 89).res []) (finish ⟨L, F, nt, X⟩ Try.f89 (sig F 89).res []) (fun _ _ => none) [.block 0, .seq (subc (bodyOf Try.f89) [1, 1, 1])]).2 (finish ⟨L, F, nt, X⟩ Try.f89 (sig F 89).res []) r7 n i9 l10).trans (congrArg (fun q => q r7 n i9 l10) (congrArg (f89_3_L nt X n) (show (fun l10 => (kNf ⟨L, F, nt, X⟩ ⟨0, lookV V 89⟩ n (finish ⟨L, F, nt, X⟩ Try.f89 (sig F 89).res []) (finish ⟨L, F, nt, X⟩ Try.f89 (sig F 89).res []) (fun _ _ => none) [.block 0, .seq (subc (bodyOf Try.f89) [1, 1, 1])]).2 0 (f89_3_X0 r7 l10)) = (fun l10 => f89_3_P0 nt X n r7 l10) from funext fun l10 => (f89_3_P0_q nt X n r7 l10)))))))


def nmRow (r : Row) : Row := [.str (nth .u r 0).toS]
theorem strs_nm (l : List Row) : strsOf (l.map nmRow) = (nmsOf l).map (·.1) := by
  simp only [strsOf, nmsOf, List.map_map]; rfl
def sp40 : Sp
  | [.ps _ 73 _ l], [] => bif Nat.blt (szR l) big then some ([.bool (mayNames (nmsOf l))], []) else none
  | _, _ => none
theorem f40_loop {nt n : Nat} {X : Call'} {l : List Row} (hb : l.length ≤ 64) {x0 : List Row → Cp → Option (List AV × List AObj)} {x1 : Int → List Row → Cp → Option (List AV × List AObj)} {V N : Option (List AV × List AObj)}
    (h0 : ∀ c, x0 (l.map nmRow) c = V) (h1 : ∀ i l c, x1 i l c = N) (hS : Nat.blt (szR l) big = true)
    (x38 : ∀ s, X 38 [.str s] [] = some ([.bool (mayName s)], [])) (x64 : ∀ k n s t c l r, Nat.blt (szR l) huge = true → X 64 [.agg [.int .u8 k, .int .i64 n, .str s, .ps t 34 c l, .int .i64 r]] [] = some ([.bool (mayV (.mk k n s (vlsOf l) r))], [])) : ∀ (fu j : Nat) (c : Cp), j ≤ l.length → l.length - j < fu →
    f40_5_L nt X n x0 x1 l fu j ((l.take j).map nmRow) c = bif (nmsOf (l.drop j)).all mayNm then V else N
  | 0, j, c, g1, g2 => by omega
  | fu + 1, j, c, g1, g2 => by
    by_cases hk : j < l.length
    · have hmm := nth_mem (d := []) hk
      have hs := sz_mem hmm
      have s3 := sz_nth (nth [] l j) 4
      have h3 : decide ((j : Int) < (l.length : Int)) = true := by simp only [decide_eq_true_eq]; omega
      have h4 : decide ((0 : Int) ≤ (j : Int)) = true := by simp only [decide_eq_true_eq]; omega
      have hw := wrap_i64_nat (k := j) (by omega)
      have hg : Nat.blt (szR (nth .u (nth [] l j) 4).toR) huge = true := by rw [nblt] at hS ⊢; unfold big at hS; unfold huge; omega
      have e64 := x64 (nth .u (nth [] l j) 1).toI (nth .u (nth [] l j) 2).toI (nth .u (nth [] l j) 3).toS (nth .u (nth [] l j) 4).toTg (nth .u (nth [] l j) 4).toCp (nth .u (nth [] l j) 4).toR (nth .u (nth [] l j) 5).toI hg
      have ih := fun c => f40_loop (nt := nt) (n := n) hb h0 h1 hS x38 x64 fu (j + 1) c (by omega) (by omega)
      have hap : (l.take j).map nmRow ++ [[.str (nth .u (nth [] l j) 0).toS]] = (l.take (j + 1)).map nmRow := by
        rw [List.take_succ_eq_append_getElem hk, List.map_append, nth_get hk]; rfl
      have hbl : Nat.ble ((((l.take j).map nmRow).length + 1) * 16) 1099511627776 = true := by rw [nble]; simp; omega
      rw [drop_nth hk]
      simp only [nmsOf, List.map_cons, List.all_cons]
      rw [← nmsOf]
      have hok : mayNm (nmOf (nth [] l j)) = (mayName (nth .u (nth [] l j) 0).toS && mayV (.mk (nth .u (nth [] l j) 1).toI (nth .u (nth [] l j) 2).toI (nth .u (nth [] l j) 3).toS (vlsOf (nth .u (nth [] l j) 4).toR) (nth .u (nth [] l j) 5).toI)) := rfl
      rw [hok]
      simp only [f40_5_L, f40_5, h3, h4, Bool.and_self, cond_true, Int.toNat_natCast, x38, e64, Option.bind_some, toI_int, toB_bool, toS_str, toCells_bool, toCells_int, toCells_agg, nth_zero, nth_1, nth_2, nth_3, nth_4, toTg_ps, toCp_ps, toR_ps, f40_J8, hbl, hap, hw, ih, h1]
      cases mayName (nth .u (nth [] l j) 0).toS
      · rfl
      · cases mayV (.mk (nth .u (nth [] l j) 1).toI (nth .u (nth [] l j) 2).toI (nth .u (nth [] l j) 3).toS (vlsOf (nth .u (nth [] l j) 4).toR) (nth .u (nth [] l j) 5).toI) <;> rfl
    · obtain rfl : j = l.length := by omega
      have h3 : decide (((l.length : Nat) : Int) < (l.length : Int)) = false := by simp
      simp only [f40_5_L, f40_5, h3, List.drop_length, nmsOf, List.map_nil, List.all_nil, cond_false, cond_true, List.take_length, h0]
theorem told40 (nt : Nat) : Facts nt 40 sp40 := fun args h rs h' hv => by
  unfold sp40 at hv
  split at hv
  · rename_i T C l
    cases hb : Nat.blt (szR l) big
    · rw [hb] at hv; cases hv
    · rw [hb] at hv
      refine fact_tab Try.func40 [⟨38, sp38, told38 nt⟩, ⟨64, sp64, told64 nt⟩, ⟨86, sp86, told86 nt⟩] (l.length + 1) ?_
      rw [f40_q, ← hv]
      generalize hX : tab [⟨38, sp38, told38 nt⟩, ⟨64, sp64, told64 nt⟩, ⟨86, sp86, told86 nt⟩] = X
      have x38 : ∀ s, X 38 [.str s] [] = some ([.bool (mayName s)], []) := fun s => by rw [← hX, tab_hit]; rfl
      have x64 : ∀ k n s t c l r, Nat.blt (szR l) huge = true → X 64 [.agg [.int .u8 k, .int .i64 n, .str s, .ps t 34 c l, .int .i64 r]] [] = some ([.bool (mayV (.mk k n s (vlsOf l) r))], []) := fun k n s t c l r hg => by
        rw [← hX, tab_miss rfl, tab_hit]; simp only [sp64, hg, cond_true]
      have x86 : ∀ c, l.length ≤ 64 → X 86 [.ps nt 9 c (l.map nmRow)] [] = some ([.bool (twice ((nmsOf l).map (·.1)))], []) := fun c hl => by
        have hg : Nat.blt (l.map nmRow).length big = true := by rw [nblt]; simp; unfold big; omega
        rw [← hX, tab_miss rfl, tab_miss rfl, tab_hit, ← strs_nm]; simp only [sp86, hg, cond_true]
      clear hX
      have hlen : (nmsOf l).length = l.length := by simp [nmsOf]
      by_cases h64 : l.length ≤ 64
      · have h0 : decide ((64 : Int) < (l.length : Int)) = false := by simp; omega
        have h1 : decide (((nmsOf l).length : Int) ≤ 64) = true := by rw [hlen]; simp; omega
        have hl := f40_loop (nt := nt) (n := l.length + 1) (x0 := fun l11 c12 => f40_5_P0 nt X (l.length + 1) l11 c12) (x1 := fun i10 l11 c12 => f40_5_P1 nt X (l.length + 1)) (V := some ([.bool (!twice ((nmsOf l).map (·.1)))], [])) (N := some ([.bool false], [])) h64
          (fun c => by simp only [f40_5_P0, x86 _ h64, Option.bind_some, toI_int, toB_bool, toS_str, toCells_bool, toCells_int, toCells_agg, nth_zero, nth_1, nth_2, nth_3, nth_4, toTg_ps, toCp_ps, toR_ps]) (fun _ _ _ => rfl) hb x38 x64 (l.length + 1) 0 ⟨true, true⟩ (by omega) (by omega)
        simp only [List.take_zero, List.map_nil, List.drop_zero, Int.natCast_zero, Int.ofNat_zero] at hl
        simp only [f40, f40_R, h0, cond_false, hl, mayNames, h1, Bool.true_and, cond_true]
        cases (nmsOf l).all mayNm <;> rfl
      · have h0 : decide ((64 : Int) < (l.length : Int)) = true := by simp; omega
        have h1 : decide (((nmsOf l).length : Int) ≤ 64) = false := by rw [hlen]; simp; omega
        simp only [f40, f40_R, h0, cond_true, mayNames, h1, Bool.false_and]
  · cases hv
/-- a value's cells, from cell j on, in memory of their own; zero, if it may not be -/
def ownAt (nt : Nat) (r : Row) (j : Nat) : Row := bif mayV (vlAt r j) then [.int .u8 (nth .u r j).toI, .int .i64 (nth .u r (j + 1)).toI, .str (nth .u r (j + 2)).toS, .ps (ownTg nt (nth .u r (j + 3)).toR) 34 (ownCp (nth .u r (j + 3)).toR) ((nth .u r (j + 3)).toR.map (ownR nt)), .int .i64 (nth .u r (j + 4)).toI] else z34
theorem vl_ownAt (nt : Nat) (r : Row) (j : Nat) : vlOf (ownAt nt r j) = bif mayV (vlAt r j) then vlAt r j else vl0 := by
  unfold ownAt
  cases mayV (vlAt r j)
  · rw [vlOf_eq]; rfl
  · rw [vlOf_eq]
    simp only [cond_true, nth_zero, nth_1, nth_2, nth_3, nth_4, toI_int, toS_str, toR_ps, vls_own]
    rfl
theorem cell_ownAt {nt : Nat} {X : Call'} {r : Row} (x85 : ∀ k n s t c l r, Nat.blt (szR l) big2 = true → X 85 [.agg [.int .u8 k, .int .i64 n, .str s, .ps t 34 c l, .int .i64 r]] [] = sp85 nt [.agg [.int .u8 k, .int .i64 n, .str s, .ps t 34 c l, .int .i64 r]] []) (hg : Nat.blt (szR (nth .u r 4).toR) big2 = true) :
    ∃ e, X 85 [.agg [.int .u8 (nth .u r 1).toI, .int .i64 (nth .u r 2).toI, .str (nth .u r 3).toS, .ps (nth .u r 4).toTg 34 (nth .u r 4).toCp (nth .u r 4).toR, .int .i64 (nth .u r 5).toI]] [] = some ([.agg (ownAt nt r 1), .int .i64 e], []) := by
  rw [x85 _ _ _ _ _ _ _ hg]
  simp only [sp85, hg, cond_true]
  unfold ownAt vlAt
  cases mayV (.mk (nth .u r 1).toI (nth .u r (1 + 1)).toI (nth .u r (1 + 2)).toS (vlsOf (nth .u r (1 + 3)).toR) (nth .u r (1 + 4)).toI)
  · exact ⟨2, rfl⟩
  · exact ⟨0, rfl⟩
theorem ownAt_eta (nt : Nat) (r : Row) (j : Nat) : [.int .u8 (nth .u (ownAt nt r j) 0).toI, .int .i64 (nth .u (ownAt nt r j) 1).toI, .str (nth .u (ownAt nt r j) 2).toS, .ps (nth .u (ownAt nt r j) 3).toTg 34 (nth .u (ownAt nt r j) 3).toCp (nth .u (ownAt nt r j) 3).toR, .int .i64 (nth .u (ownAt nt r j) 4).toI] = ownAt nt r j := by
  unfold ownAt
  cases mayV (vlAt r j) <;> rfl
theorem sz_ownAt (nt : Nat) (r : Row) (j : Nat) : szL (ownAt nt r j) ≤ 6 * szL r + 12 := by
  have hS : ∀ (r : Row) (j : Nat), (nth .u r (j + 2)).toS.length + szR (nth .u r (j + 3)).toR ≤ szL r := by
    intro r
    induction r with
    | nil => intro j; simp [nth, AV.toS, AV.toR, szR]
    | cons c cs ih =>
      intro j
      cases j with
      | zero => exact sz_two (c :: cs)
      | succ j => have := ih j; simp only [nth, szL]; omega
  have h2 := hS r j
  have h3 := szR_own nt (nth .u r (j + 3)).toR
  unfold ownAt
  cases mayV (vlAt r j)
  · simp [z34, szL, sz, szR]
  · simp only [cond_true, szL, sz]; omega
def sp36 (nt : Nat) : Sp
  | [.ps _ 73 _ l, .str s], [] => bif Nat.blt (szR l) big2 then (match l.find? (fun r => decide ((nth .u r 0).toS = s)) with
    | some r => some ([.agg (ownAt nt r 1), .bool true], [])
    | none => some ([.agg z34, .bool false], [])) else none
  | _, _ => none
theorem f36_loop {nt n : Nat} {X : Call'} {l : List Row} {s : List UInt8} {x0 : Option (List AV × List AObj)} {x1 : Int → List AV × List AObj → Option (List AV × List AObj)} (hS : Nat.blt (szR l) big2 = true)
    (x85 : ∀ k n s t c l r, Nat.blt (szR l) big2 = true → X 85 [.agg [.int .u8 k, .int .i64 n, .str s, .ps t 34 c l, .int .i64 r]] [] = sp85 nt [.agg [.int .u8 k, .int .i64 n, .str s, .ps t 34 c l, .int .i64 r]] []) (W : Row → Option (List AV × List AObj)) (h1 : ∀ i r e, x1 i ([.agg (ownAt nt r 1), .int .i64 e], []) = W r) : ∀ (fu j : Nat), j ≤ l.length → l.length - j < fu →
    f36_2_L nt X n x0 x1 l s fu j = match (l.drop j).find? (fun r => decide ((nth .u r 0).toS = s)) with | some r => W r | none => x0
  | 0, j, g1, g2 => by omega
  | fu + 1, j, g1, g2 => by
    have hlen : l.length ≤ szR l := szR_len l
    by_cases hk : j < l.length
    · have hmm := nth_mem (d := []) hk
      have hs := sz_mem hmm
      have s3 := sz_nth (nth [] l j) 4
      have h3 : decide ((j : Int) < (l.length : Int)) = true := by simp only [decide_eq_true_eq]; omega
      have h4 : decide ((0 : Int) ≤ (j : Int)) = true := by simp only [decide_eq_true_eq]; omega
      have hw := wrap_i64_nat (k := j) (by rw [nblt] at hS; unfold big2 at hS; omega)
      have hg : Nat.blt (szR (nth .u (nth [] l j) 4).toR) big2 = true := by rw [nblt] at hS ⊢; omega
      obtain ⟨e, e85⟩ := cell_ownAt x85 hg
      have ih := f36_loop (nt := nt) (n := n) (s := s) (x0 := x0) hS x85 W h1 fu (j + 1) (by omega) (by omega)
      rw [drop_nth hk, List.find?_cons]
      simp only [f36_2_L, f36_2, h3, h4, Bool.and_self, cond_true, Int.toNat_natCast, e85, Option.bind_some, hw, ih, h1]
      cases decide ((nth .u (nth [] l j) 0).toS = s) <;> rfl
    · obtain rfl : j = l.length := by omega
      have h3 : decide (((l.length : Nat) : Int) < (l.length : Int)) = false := by simp
      simp only [f36_2_L, f36_2, h3, List.drop_length, List.find?_nil, cond_false]
theorem told36 (nt : Nat) : Facts nt 36 (sp36 nt) := fun args h rs h' hv => by
  unfold sp36 at hv
  split at hv
  · rename_i T C l s
    cases hb : Nat.blt (szR l) big2
    · rw [hb] at hv; cases hv
    · rw [hb] at hv
      refine fact_tab Try.func36 [⟨85, sp85 nt, told85 nt⟩] (l.length + 1) ?_
      have hl := f36_loop (nt := nt) (n := l.length + 1) (X := tab [⟨85, sp85 nt, told85 nt⟩]) (s := s) (x0 := f36_2_P0 nt (tab [⟨85, sp85 nt, told85 nt⟩]) (l.length + 1)) (x1 := fun i9 r10 => f36_2_P1 nt (tab [⟨85, sp85 nt, told85 nt⟩]) (l.length + 1) r10) hb (fun _ _ _ _ _ _ _ _ => tab_hit) (fun r => some ([.agg (ownAt nt r 1), .bool true], [])) (fun i r e => by
        simp only [f36_2_P1, nth_zero, toCells_agg, ownAt_eta]) (l.length + 1) 0 (by omega) (by omega)
      simp only [List.drop_zero, Int.natCast_zero, Int.ofNat_zero] at hl
      rw [f36_q, ← hv]
      simp only [f36, f36_R, hl, cond_true]
      rfl
  · cases hv
def sp124 : Sp
  | [.ps _ 73 c l], [] => bif Nat.blt l.length 4294967296 then some ([.own 0 0], [.arr 73 (bif c.nl then [] else l) ⟨c.nl, c.nl⟩ 0 0]) else none
  | _, _ => none
theorem told124 (nt : Nat) : Facts nt 124 sp124 := fun args h rs h' hv => by
  unfold sp124 at hv
  split at hv
  · rename_i T C l
    cases hb : Nat.blt l.length 4294967296
    · rw [hb] at hv; cases hv
    · rw [hb] at hv
      rw [nblt] at hb
      refine fact_tab Try.func124 [] 1 ?_
      rw [f124_q, ← hv]
      have hq : Nat.ble ((0 + l.length) * 80) 1099511627776 = true := by rw [nble]; omega
      simp only [f124, hq, cond_true, List.nil_append]
      cases C.nl <;> rfl
  · cases hv
/-- a name's row, its value in memory of its own -/
def ownN (nt : Nat) (r : Row) : Row := .str (nth .u r 0).toS :: ownAt nt r 1
def sp89 (nt : Nat) : Sp
  | [.ps _ 73 c l], [] => bif Nat.blt (szR l) big2 then some ([.own 0 0], [.arr 73 ((bif c.nl then [] else l).map (ownN nt)) ⟨c.nl, c.nl⟩ 0 0]) else none
  | _, _ => none
theorem f89_loop {nt n : Nat} {X : Call'} {l : List Row} {cc : Cp} {x0 : List Row → Option (List AV × List AObj)} (hS : Nat.blt (szR l) big2 = true)
    (x85 : ∀ k n s t c l r, Nat.blt (szR l) big2 = true → X 85 [.agg [.int .u8 k, .int .i64 n, .str s, .ps t 34 c l, .int .i64 r]] [] = sp85 nt [.agg [.int .u8 k, .int .i64 n, .str s, .ps t 34 c l, .int .i64 r]] []) : ∀ (fu j : Nat), j ≤ l.length → l.length - j < fu →
    f89_3_L nt X n x0 ([.own 0 0], [.arr 73 l cc 0 0]) fu j ((l.take j).map (ownN nt) ++ l.drop j) = x0 (l.map (ownN nt))
  | 0, j, g1, g2 => by omega
  | fu + 1, j, g1, g2 => by
    have hlen : l.length ≤ szR l := szR_len l
    have hr : (nth AObj.dead (Prod.snd (([AV.own 0 0], [AObj.arr 73 l cc 0 0]) : List AV × List AObj)) 0) = AObj.arr 73 l cc 0 0 := rfl
    by_cases hk : j < l.length
    · have hmm := nth_mem (d := []) hk
      have hs := sz_mem hmm
      have s3 := sz_nth (nth [] l j) 4
      have hj : ((l.take j).map (ownN nt)).length = j := by simp; omega
      have hll : ((l.take j).map (ownN nt) ++ l.drop j).length = l.length := by simp; omega
      have h3 : decide ((j : Int) < (l.length : Int)) = true := by simp only [decide_eq_true_eq]; omega
      have h4 : decide ((0 : Int) ≤ (j : Int)) = true := by simp only [decide_eq_true_eq]; omega
      have hw := wrap_i64_nat (k := j) (by rw [nblt] at hS; unfold big2 at hS; omega)
      have hg : Nat.blt (szR (nth .u (nth [] l j) 4).toR) big2 = true := by rw [nblt] at hS ⊢; omega
      have hn : nth [] ((l.take j).map (ownN nt) ++ l.drop j) j = (nth [] l j) := by
        rw [nth_append, hj, if_neg (by omega), Nat.sub_self, drop_nth hk]; rfl
      obtain ⟨e, e85⟩ := cell_ownAt x85 hg
      have ih := f89_loop (nt := nt) (n := n) (cc := cc) (x0 := x0) hS x85 fu (j + 1) (by omega) (by omega)
      have hu : upd ((l.take j).map (ownN nt) ++ l.drop j) j (.str (nth .u (nth [] l j) 0).toS :: [.int .u8 (nth .u (ownAt nt (nth [] l j) 1) 0).toI, .int .i64 (nth .u (ownAt nt (nth [] l j) 1) 1).toI, .str (nth .u (ownAt nt (nth [] l j) 1) 2).toS, .ps (nth .u (ownAt nt (nth [] l j) 1) 3).toTg 34 (nth .u (ownAt nt (nth [] l j) 1) 3).toCp (nth .u (ownAt nt (nth [] l j) 1) 3).toR, .int .i64 (nth .u (ownAt nt (nth [] l j) 1) 4).toI]) = (l.take (j + 1)).map (ownN nt) ++ l.drop (j + 1) := by
        rw [ownAt_eta, drop_nth hk]
        have := upd_mid (nth [] l j) (ownN nt (nth [] l j)) ((l.take j).map (ownN nt)) (l.drop (j + 1))
        rw [hj] at this
        rw [List.take_succ_eq_append_getElem hk, List.map_append, ← nth_get (d := []) hk]
        simp only [List.map_cons, List.map_nil, List.append_assoc, List.singleton_append]
        exact this
      have hz : Nat.ble 0 j = true := by rw [nble]; omega
      simp only [f89_3_L, f89_3, hr, AObj.toRows, AObj.toFz, h3, h4, hll, Bool.and_self, cond_true, Int.toNat_natCast, hn, e85, Option.bind_some, nth_zero, toCells_agg, hz, hu, hw, ih]
    · obtain rfl : j = l.length := by omega
      have h3 : decide (((l.length : Nat) : Int) < (l.length : Int)) = false := by simp
      simp only [f89_3_L, f89_3, hr, AObj.toRows, h3, List.drop_length, cond_false, List.take_length, List.append_nil]
theorem told89 (nt : Nat) : Facts nt 89 (sp89 nt) := fun args h rs h' hv => by
  unfold sp89 at hv
  split at hv
  · rename_i T C l
    cases hb : Nat.blt (szR l) big2
    · rw [hb] at hv; cases hv
    · rw [hb] at hv
      have hlen : l.length ≤ szR l := szR_len l
      have hb2 := hb
      rw [nblt] at hb2
      have hg : Nat.blt l.length 4294967296 = true := by rw [nblt]; unfold big2 at hb2; omega
      refine fact_tab Try.func89 [⟨124, sp124, told124 nt⟩, ⟨85, sp85 nt, told85 nt⟩] (l.length + 1) ?_
      have e : tab [⟨124, sp124, told124 nt⟩, ⟨85, sp85 nt, told85 nt⟩] 124 [.ps T 73 C l] [] = some ([.own 0 0], [.arr 73 (bif C.nl then [] else l) ⟨C.nl, C.nl⟩ 0 0]) := by
        rw [tab_hit]; simp only [sp124, hg, cond_true]
      rw [f89_q, ← hv]
      simp only [f89, f89_R, e, Option.bind_some, cond_true]
      have hl := f89_loop (nt := nt) (n := l.length + 1) (X := tab [⟨124, sp124, told124 nt⟩, ⟨85, sp85 nt, told85 nt⟩]) (l := bif C.nl then [] else l) (cc := ⟨C.nl, C.nl⟩) (x0 := fun l10 => f89_3_P0 nt (tab [⟨124, sp124, told124 nt⟩, ⟨85, sp85 nt, told85 nt⟩]) (l.length + 1) ([.own 0 0], [.arr 73 (bif C.nl then [] else l) ⟨C.nl, C.nl⟩ 0 0]) l10) (by cases C.nl; exact hb; rw [nblt]; simp [szR, big2]) (fun _ _ _ _ _ _ _ _ => by rw [tab_miss rfl, tab_hit]) (l.length + 1) 0 (by omega) (by cases C.nl; simp only [cond_false]; omega; simp only [cond_true, List.length_nil]; omega)
      simp only [List.take_zero, List.map_nil, List.nil_append, List.drop_zero, Int.natCast_zero, Int.ofNat_zero] at hl
      exact hl
  · cases hv
end Go.Ev.T
