/- Functions 63, 19 (work, Work), decompiled, and what they come to. -/
import Derived.Test.YtljiamlnpmhpmaaF40
import Derived.Test.YtljiamlnpmhpmaaF21
set_option linter.unusedVariables false
set_option linter.unusedSimpArgs false
noncomputable section
namespace Go.Ev.T
open Go Go.Ev Go.Proofs
def f63_14_S (aT : Nat) (aC : Cp) (a : List Row) (b0 : Int) (b1 : Int) (b2 : List UInt8) (b3T : Nat) (b3C : Cp) (b3 : List Row) (i17 : Int) (i18 : Int) (l19 : List Row) (c20 : Cp) : St := St.mk [AV.ps aT 73 aC a, AV.u, AV.ptr 0 0 0 0, AV.u, AV.u, AV.u, AV.ptr 2 0 0 0, AV.ptr 3 0 0 0, AV.u, AV.u, AV.u, AV.u, AV.u, AV.u, AV.u, AV.u, AV.u, AV.u, AV.u, AV.u, AV.u, AV.u, AV.u, AV.u, AV.u, AV.u, AV.u, AV.u, AV.u, AV.u, AV.u, AV.u, AV.u, AV.u, AV.u, AV.u, AV.u, AV.u, AV.u, AV.u, AV.u, AV.u, AV.u, AV.ps b3T 26 b3C b3, AV.int IntKind.i64 (↑(List.length b3) : Int), AV.int IntKind.i64 i17, AV.u, AV.u, AV.u, AV.u, AV.u, AV.u, AV.u, AV.u, AV.u, AV.u, AV.u, AV.u, AV.u, AV.u, AV.u, AV.u, AV.u, AV.u, AV.u, AV.u, AV.u, AV.u, AV.u] [AObj.box 3 [AV.int IntKind.i64 i18], AObj.box 26 [AV.int IntKind.u8 b0, AV.int IntKind.i64 b1, AV.str b2, AV.ps b3T 26 b3C b3], AObj.box 34 [AV.int IntKind.u8 0, AV.int IntKind.i64 0, AV.str [], AV.ps 0 34 (Cp.mk true true) [], AV.int IntKind.i64 0], AObj.box 34 [AV.int IntKind.u8 3, AV.int IntKind.i64 0, AV.str [], AV.own 4 0, AV.int IntKind.i64 0], AObj.arr 34 l19 c20 0 0]
def f63_14_X0 (b0 : Int) (b1 : Int) (b2 : List UInt8) (b3T : Nat) (b3C : Cp) (b3 : List Row) (i18 : Int) (l19 : List Row) (c20 : Cp) : St := St.mk [AV.u, AV.u, AV.ptr 0 0 0 0, AV.u, AV.u, AV.u, AV.ptr 2 0 0 0, AV.ptr 3 0 0 0, AV.u, AV.u, AV.u, AV.u, AV.u, AV.u, AV.u, AV.u, AV.u, AV.u, AV.u, AV.u, AV.u, AV.u, AV.u, AV.u, AV.u, AV.u, AV.u, AV.u, AV.u, AV.u, AV.u, AV.u, AV.u, AV.u, AV.u, AV.u, AV.u, AV.u, AV.u, AV.u, AV.u, AV.u, AV.u, AV.u, AV.u, AV.u, AV.u, AV.u, AV.u, AV.u, AV.u, AV.u, AV.u, AV.u, AV.u, AV.u, AV.u, AV.u, AV.u, AV.u, AV.u, AV.u, AV.u, AV.u, AV.u, AV.u, AV.u, AV.u, AV.u] [AObj.box 3 [AV.int IntKind.i64 i18], AObj.box 26 [AV.int IntKind.u8 b0, AV.int IntKind.i64 b1, AV.str b2, AV.ps b3T 26 b3C b3], AObj.box 34 [AV.int IntKind.u8 0, AV.int IntKind.i64 0, AV.str [], AV.ps 0 34 (Cp.mk true true) [], AV.int IntKind.i64 0], AObj.box 34 [AV.int IntKind.u8 3, AV.int IntKind.i64 0, AV.str [], AV.own 4 0, AV.int IntKind.i64 0], AObj.arr 34 l19 c20 0 0]
def f63_14_X1 (b0 : Int) (b1 : Int) (b2 : List UInt8) (b3T : Nat) (b3C : Cp) (b3 : List Row) (i17 : Int) (i18 : Int) (l19 : List Row) (c20 : Cp) : St := St.mk [AV.u, AV.u, AV.ptr 0 0 0 0, AV.u, AV.u, AV.u, AV.ptr 2 0 0 0, AV.ptr 3 0 0 0, AV.u, AV.u, AV.u, AV.u, AV.u, AV.u, AV.u, AV.u, AV.u, AV.u, AV.u, AV.u, AV.u, AV.u, AV.u, AV.u, AV.u, AV.u, AV.u, AV.u, AV.u, AV.u, AV.u, AV.u, AV.u, AV.u, AV.u, AV.u, AV.u, AV.u, AV.u, AV.u, AV.u, AV.u, AV.u, AV.u, AV.u, AV.u, AV.u, AV.u, AV.u, AV.u, AV.u, AV.u, AV.u, AV.u, AV.u, AV.u, AV.u, AV.u, AV.u, AV.u, AV.u, AV.u, AV.u, AV.u, AV.u, AV.u, AV.u, AV.u, AV.u] [AObj.box 3 [AV.int IntKind.i64 i18], AObj.box 26 [AV.int IntKind.u8 b0, AV.int IntKind.i64 b1, AV.str b2, AV.ps b3T 26 b3C b3], AObj.box 34 [AV.int IntKind.u8 0, AV.int IntKind.i64 0, AV.str [], AV.ps 0 34 (Cp.mk true true) [], AV.int IntKind.i64 0], AObj.box 34 [AV.int IntKind.u8 3, AV.int IntKind.i64 0, AV.str [], AV.own 4 0, AV.int IntKind.i64 0], AObj.arr 34 l19 c20 0 0, AObj.box 26 [AV.int IntKind.u8 (AV.toI (nth AV.u (nth [] b3 (Int.toNat i17)) 0)), AV.int IntKind.i64 (AV.toI (nth AV.u (nth [] b3 (Int.toNat i17)) 1)), AV.str (AV.toS (nth AV.u (nth [] b3 (Int.toNat i17)) 2)), AV.ps (AV.toTg (nth AV.u (nth [] b3 (Int.toNat i17)) 3)) 26 (AV.toCp (nth AV.u (nth [] b3 (Int.toNat i17)) 3)) (AV.toR (nth AV.u (nth [] b3 (Int.toNat i17)) 3))]]
def f63_14 {ρ : Type} (nt : Nat) (X : Call') (n : Nat) (kN : Int → Int → List Row → Cp → Option ρ) (x1 : Int → Int → List Row → Cp → Option ρ) (x0 : Int → List Row → Cp → Option ρ) (aT : Nat) (aC : Cp) (a : List Row) (b3 : List Row) (i17 : Int) (i18 : Int) (l19 : List Row) (c20 : Cp) : Option ρ :=
  (bif decide (i17 < (↑(List.length b3) : Int)) then (bif decide (0 ≤ i17) && decide (i17 < (↑(List.length b3) : Int)) then (bif decide (i18 < 0) then x1 i17 i18 l19 c20 else ((X 63 [AV.ps aT 73 aC a, AV.agg [AV.int IntKind.u8 (AV.toI (nth AV.u (nth [] b3 (Int.toNat i17)) 0)), AV.int IntKind.i64 (AV.toI (nth AV.u (nth [] b3 (Int.toNat i17)) 1)), AV.str (AV.toS (nth AV.u (nth [] b3 (Int.toNat i17)) 2)), AV.ps (AV.toTg (nth AV.u (nth [] b3 (Int.toNat i17)) 3)) 26 (AV.toCp (nth AV.u (nth [] b3 (Int.toNat i17)) 3)) (AV.toR (nth AV.u (nth [] b3 (Int.toNat i17)) 3))], AV.ptr 0 0 0 0] [AObj.box 3 [AV.int IntKind.i64 i18]]).bind fun r21 => (bif Nat.ble ((List.length l19 + 1) * 64) 1099511627776 then kN (IntKind.wrap IntKind.i64 (i17 + 1)) (AV.toI (nth AV.u (AObj.toRow (nth AObj.dead (Prod.snd r21) 0)) 0)) (l19 ++ [[AV.int IntKind.u8 (AV.toI (nth AV.u (AV.toCells (nth AV.u (Prod.fst r21) 0)) 0)), AV.int IntKind.i64 (AV.toI (nth AV.u (AV.toCells (nth AV.u (Prod.fst r21) 0)) 1)), AV.str (AV.toS (nth AV.u (AV.toCells (nth AV.u (Prod.fst r21) 0)) 2)), AV.ps (AV.toTg (nth AV.u (AV.toCells (nth AV.u (Prod.fst r21) 0)) 3)) 34 (AV.toCp (nth AV.u (AV.toCells (nth AV.u (Prod.fst r21) 0)) 3)) (AV.toR (nth AV.u (AV.toCells (nth AV.u (Prod.fst r21) 0)) 3)), AV.int IntKind.i64 (AV.toI (nth AV.u (AV.toCells (nth AV.u (Prod.fst r21) 0)) 4))]]) (Cp.mk (Cp.nl c20 && false) false) else none))) else none) else x0 i18 l19 c20)
theorem f63_14_q {ρ : Type} (nt : Nat) (X : Call') (n : Nat) (kN : St → Option ρ) (kX : Nat → St → Option ρ) (kR : St → Option ρ) (aT : Nat) (aC : Cp) (a : List Row) (b0 : Int) (b1 : Int) (b2 : List UInt8) (b3T : Nat) (b3C : Cp) (b3 : List Row) (i17 : Int) (i18 : Int) (l19 : List Row) (c20 : Cp) : stepL ⟨L, F, nt, X⟩ ⟨1, lookV V 63⟩ n (subc (bodyOf Try.f63) [1, 1, 0, 1, 0, 1, 1, 1, 1, 1, 1, 1, 0, 1, 1, 0, 0]) (look (lookV V 63) 14).xl kX kR (fun s => kN ((clean 1 5 (look (lookV V 63) 14) [(Pl.mk 7 (some 3) 34, some 4)]) s)) (f63_14_S aT aC a b0 b1 b2 b3T b3C b3 i17 i18 l19 c20) = f63_14 nt X n (fun i17 i18 l19 c20 => kN (f63_14_S aT aC a b0 b1 b2 b3T b3C b3 i17 i18 l19 c20)) (fun i17 i18 l19 c20 => kX 1 (f63_14_X1 b0 b1 b2 b3T b3C b3 i17 i18 l19 c20)) (fun i18 l19 c20 => kX 1 (f63_14_X0 b0 b1 b2 b3T b3C b3 i18 l19 c20)) aT aC a b3 i17 i18 l19 c20 := by kernel_rfl
def f63_14_L {ρ : Type} (nt : Nat) (X : Call') (n : Nat) (x0 : Int → List Row → Cp → Option ρ) (x1 : Int → Int → List Row → Cp → Option ρ) (aT : Nat) (aC : Cp) (a : List Row) (b3 : List Row) : Nat → Int → Int → List Row → Cp → Option ρ
  | 0, _, _, _, _ => none
  | m + 1, i17, i18, l19, c20 => f63_14 nt X n (fun i17 i18 l19 c20 => f63_14_L nt X n x0 x1 aT aC a b3 m i17 i18 l19 c20) x1 x0 aT aC a b3 i17 i18 l19 c20
theorem f63_14_e {ρ : Type} (nt : Nat) (X : Call') (n : Nat) (kX : Nat → St → Option ρ) (kR : St → Option ρ) (aT : Nat) (aC : Cp) (a : List Row) (b0 : Int) (b1 : Int) (b2 : List UInt8) (b3T : Nat) (b3C : Cp) (b3 : List Row) (m : Nat) (i17 : Int) (i18 : Int) (l19 : List Row) (c20 : Cp) : loopN (stepL ⟨L, F, nt, X⟩ ⟨1, lookV V 63⟩ n (subc (bodyOf Try.f63) [1, 1, 0, 1, 0, 1, 1, 1, 1, 1, 1, 1, 0, 1, 1, 0, 0]) (look (lookV V 63) 14).xl kX kR) (clean 1 5 (look (lookV V 63) 14) [(Pl.mk 7 (some 3) 34, some 4)]) m (f63_14_S aT aC a b0 b1 b2 b3T b3C b3 i17 i18 l19 c20) = f63_14_L nt X n (fun i18 l19 c20 => kX 1 (f63_14_X0 b0 b1 b2 b3T b3C b3 i18 l19 c20)) (fun i17 i18 l19 c20 => kX 1 (f63_14_X1 b0 b1 b2 b3T b3C b3 i17 i18 l19 c20)) aT aC a b3 m i17 i18 l19 c20 :=
  loopN_ind (α := Int × Int × List Row × Cp) (fun w => ((fun i17 i18 l19 c20 => (f63_14_S aT aC a b0 b1 b2 b3T b3C b3 i17 i18 l19 c20))) w.1 w.2.1 w.2.2.1 w.2.2.2) (fun k w => ((fun i17 i18 l19 c20 => f63_14 nt X n (fun i17 i18 l19 c20 => k (i17, i18, l19, c20)) (fun i17 i18 l19 c20 => kX 1 (f63_14_X1 b0 b1 b2 b3T b3C b3 i17 i18 l19 c20)) (fun i18 l19 c20 => kX 1 (f63_14_X0 b0 b1 b2 b3T b3C b3 i18 l19 c20)) aT aC a b3 i17 i18 l19 c20)) w.1 w.2.1 w.2.2.1 w.2.2.2) (fun m w => ((fun i17 i18 l19 c20 => f63_14_L nt X n (fun i18 l19 c20 => kX 1 (f63_14_X0 b0 b1 b2 b3T b3C b3 i18 l19 c20)) (fun i17 i18 l19 c20 => kX 1 (f63_14_X1 b0 b1 b2 b3T b3C b3 i17 i18 l19 c20)) aT aC a b3 m i17 i18 l19 c20)) w.1 w.2.1 w.2.2.1 w.2.2.2) (fun _ => rfl) (fun _ _ => rfl) (fun kN w => ((fun i17 i18 l19 c20 => f63_14_q nt X n kN kX kR aT aC a b0 b1 b2 b3T b3C b3 i17 i18 l19 c20)) w.1 w.2.1 w.2.2.1 w.2.2.2) m (i17, i18, l19, c20)
def f63_14_P0 (nt : Nat) (X : Call') (n : Nat) (i18 : Int) (l19 : List Row) (c20 : Cp) : Option (List AV × List AObj) :=
  some (([AV.agg [AV.int IntKind.u8 3, AV.int IntKind.i64 0, AV.str [], AV.ps nt 34 (Cp.mk (Cp.nl c20) false) l19, AV.int IntKind.i64 0]], [AObj.box 3 [AV.int IntKind.i64 (IntKind.wrap IntKind.i64 (i18 - 1))]]))
theorem f63_14_P0_q (nt : Nat) (X : Call') (n : Nat) (b0 : Int) (b1 : Int) (b2 : List UInt8) (b3T : Nat) (b3C : Cp) (b3 : List Row) (left : Int) (i18 : Int) (l19 : List Row) (c20 : Cp) : (kNf ⟨L, F, nt, X⟩ ⟨1, lookV V 63⟩ n (finish ⟨L, F, nt, X⟩ Try.f63 (sig F 63).res [AObj.box 3 [AV.int IntKind.i64 left]]) (finish ⟨L, F, nt, X⟩ Try.f63 (sig F 63).res [AObj.box 3 [AV.int IntKind.i64 left]]) (fun _ _ => none) [.block 1, .block 0, .seq (subc (bodyOf Try.f63) [1, 1, 1])]).2 1 (f63_14_X0 b0 b1 b2 b3T b3C b3 i18 l19 c20) = f63_14_P0 nt X n i18 l19 c20 := by kernel_rfl
def f63_14_P1 (nt : Nat) (X : Call') (n : Nat) (i18 : Int) (l19 : List Row) (c20 : Cp) : Option (List AV × List AObj) :=
  some (([AV.agg [AV.int IntKind.u8 3, AV.int IntKind.i64 0, AV.str [], AV.ps nt 34 (Cp.mk (Cp.nl c20) false) l19, AV.int IntKind.i64 0]], [AObj.box 3 [AV.int IntKind.i64 (IntKind.wrap IntKind.i64 (i18 - 1))]]))
theorem f63_14_P1_q (nt : Nat) (X : Call') (n : Nat) (b0 : Int) (b1 : Int) (b2 : List UInt8) (b3T : Nat) (b3C : Cp) (b3 : List Row) (left : Int) (i17 : Int) (i18 : Int) (l19 : List Row) (c20 : Cp) : (kNf ⟨L, F, nt, X⟩ ⟨1, lookV V 63⟩ n (finish ⟨L, F, nt, X⟩ Try.f63 (sig F 63).res [AObj.box 3 [AV.int IntKind.i64 left]]) (finish ⟨L, F, nt, X⟩ Try.f63 (sig F 63).res [AObj.box 3 [AV.int IntKind.i64 left]]) (fun _ _ => none) [.block 1, .block 0, .seq (subc (bodyOf Try.f63) [1, 1, 1])]).2 1 (f63_14_X1 b0 b1 b2 b3T b3C b3 i17 i18 l19 c20) = f63_14_P1 nt X n i18 l19 c20 := by kernel_rfl
def f63_R (nt : Nat) (X : Call') (n : Nat) (L0 : Int → Int → List Row → Cp → Option (List AV × List AObj)) (aT : Nat) (aC : Cp) (a : List Row) (b0 : Int) (b1 : Int) (b2 : List UInt8) (left : Int) : Option (List AV × List AObj) :=
  (bif decide (b0 = 1) then some (([AV.agg [AV.int IntKind.u8 1, AV.int IntKind.i64 b1, AV.str [], AV.ps 0 34 (Cp.mk true true) [], AV.int IntKind.i64 0]], [AObj.box 3 [AV.int IntKind.i64 (IntKind.wrap IntKind.i64 (left - 1))]])) else (bif decide (b0 = 2) then some (([AV.agg [AV.int IntKind.u8 2, AV.int IntKind.i64 0, AV.str b2, AV.ps 0 34 (Cp.mk true true) [], AV.int IntKind.i64 0]], [AObj.box 3 [AV.int IntKind.i64 (IntKind.wrap IntKind.i64 (left - 1))]])) else (bif decide (b0 = 4) then ((X 36 [AV.ps aT 73 aC a, AV.str b2] []).bind fun r14 => ((X 107 [AV.agg [AV.int IntKind.u8 (AV.toI (nth AV.u (AV.toCells (nth AV.u (Prod.fst r14) 0)) 0)), AV.int IntKind.i64 (AV.toI (nth AV.u (AV.toCells (nth AV.u (Prod.fst r14) 0)) 1)), AV.str (AV.toS (nth AV.u (AV.toCells (nth AV.u (Prod.fst r14) 0)) 2)), AV.ps (AV.toTg (nth AV.u (AV.toCells (nth AV.u (Prod.fst r14) 0)) 3)) 34 (AV.toCp (nth AV.u (AV.toCells (nth AV.u (Prod.fst r14) 0)) 3)) (AV.toR (nth AV.u (AV.toCells (nth AV.u (Prod.fst r14) 0)) 3)), AV.int IntKind.i64 (AV.toI (nth AV.u (AV.toCells (nth AV.u (Prod.fst r14) 0)) 4))]] []).bind fun r15 => some (([AV.agg [AV.int IntKind.u8 (AV.toI (nth AV.u (AV.toCells (nth AV.u (Prod.fst r14) 0)) 0)), AV.int IntKind.i64 (AV.toI (nth AV.u (AV.toCells (nth AV.u (Prod.fst r14) 0)) 1)), AV.str (AV.toS (nth AV.u (AV.toCells (nth AV.u (Prod.fst r14) 0)) 2)), AV.ps (AV.toTg (nth AV.u (AV.toCells (nth AV.u (Prod.fst r14) 0)) 3)) 34 (AV.toCp (nth AV.u (AV.toCells (nth AV.u (Prod.fst r14) 0)) 3)) (AV.toR (nth AV.u (AV.toCells (nth AV.u (Prod.fst r14) 0)) 3)), AV.int IntKind.i64 (AV.toI (nth AV.u (AV.toCells (nth AV.u (Prod.fst r14) 0)) 4))]], [AObj.box 3 [AV.int IntKind.i64 (IntKind.wrap IntKind.i64 (left - AV.toI (nth AV.u (AV.toCells (nth AV.u (Prod.fst r15) 0)) 0)))]])))) else (bif decide (b0 = 3) then L0  (0) (left) ([]) (Cp.mk true true) else some (([AV.agg [AV.int IntKind.u8 0, AV.int IntKind.i64 0, AV.str [], AV.ps 0 34 (Cp.mk true true) [], AV.int IntKind.i64 0]], [AObj.box 3 [AV.int IntKind.i64 (IntKind.wrap IntKind.i64 (left - 1))]]))))))
def f63 (nt : Nat) (X : Call') (n : Nat) (aT : Nat) (aC : Cp) (a : List Row) (b0 : Int) (b1 : Int) (b2 : List UInt8) (b3 : List Row) (left : Int) : Option (List AV × List AObj) :=
  f63_R nt X n (fun i17 i18 l19 c20 => f63_14_L nt X n (fun i18 l19 c20 => f63_14_P0 nt X n i18 l19 c20) (fun i17 i18 l19 c20 => f63_14_P1 nt X n i18 l19 c20) aT aC a b3 n i17 i18 l19 c20) aT aC a b0 b1 b2 left
theorem f63_q (nt : Nat) (X : Call') (n : Nat) (aT : Nat) (aC : Cp) (a : List Row) (b0 : Int) (b1 : Int) (b2 : List UInt8) (b3T : Nat) (b3C : Cp) (b3 : List Row) (left : Int) : evBody ⟨L, F, nt, X⟩ (lookV V 63) n Try.f63 (sig F 63).res [AV.ps aT 73 aC a, AV.agg [AV.int IntKind.u8 b0, AV.int IntKind.i64 b1, AV.str b2, AV.ps b3T 26 b3C b3], AV.ptr 0 0 0 0] [AObj.box 3 [AV.int IntKind.i64 left]] = f63 nt X n aT aC a b0 b1 b2 b3 left :=
  Eq.trans (b := f63_R nt X n (fun i17 i18 l19 c20 => loopN (stepL ⟨L, F, nt, X⟩ ⟨1, lookV V 63⟩ n (subc (bodyOf Try.f63) [1, 1, 0, 1, 0, 1, 1, 1, 1, 1, 1, 1, 0, 1, 1, 0, 0]) (look (lookV V 63) 14).xl (kNf ⟨L, F, nt, X⟩ ⟨1, lookV V 63⟩ n (finish ⟨L, F, nt, X⟩ Try.f63 (sig F 63).res [AObj.box 3 [AV.int IntKind.i64 left]]) (finish ⟨L, F, nt, X⟩ Try.f63 (sig F 63).res [AObj.box 3 [AV.int IntKind.i64 left]]) (fun _ _ => none) [.block 1, .block 0, .seq (subc (bodyOf Try.f63) [1, 1, 1])]).2 (finish ⟨L, F, nt, X⟩ Try.f63 (sig F 63).res [AObj.box 3 [AV.int IntKind.i64 left]])) (clean 1 5 (look (lookV V 63) 14) [(Pl.mk 7 (some 3) 34, some 4)]) n (f63_14_S aT aC a b0 b1 b2 b3T b3C b3 i17 i18 l19 c20)) aT aC a b0 b1 b2 left) (by kernel_rfl) (congrArg (fun q => q aT aC a b0 b1 b2 left) (congrArg (f63_R nt X n ) (show (fun i17 i18 l19 c20 => loopN (stepL ⟨L, F, nt, X⟩ ⟨1, lookV V 63⟩ n (subc (bodyOf Try.f63) [1, 1, 0, 1, 0, 1, 1, 1, 1, 1, 1, 1, 0, 1, 1, 0, 0]) (look (lookV V 63) 14).xl (kNf ⟨L, F, nt, X⟩ ⟨1, lookV V 63⟩ n (finish ⟨L, F, nt, X⟩ Try.f63 (sig F 63).res [AObj.box 3 [AV.int IntKind.i64 left]]) (finish ⟨L, F, nt, X⟩ Try.f63 (sig F 63).res [AObj.box 3 [AV.int IntKind.i64 left]]) (fun _ _ => none) [.block 1, .block 0, .seq (subc (bodyOf Try.f63) [1, 1, 1])]).2 (finish ⟨L, F, nt, X⟩ Try.f63 (sig F 63).res [AObj.box 3 [AV.int IntKind.i64 left]])) (clean 1 5 (look (lookV V 63) 14) [(Pl.mk 7 (some 3) 34, some 4)]) n (f63_14_S aT aC a b0 b1 b2 b3T b3C b3 i17 i18 l19 c20)) = _ from funext fun i17 => funext fun i18 => funext fun l19 => funext fun c20 => (f63_14_e nt X n (kNf ⟨L, F, nt, X⟩ ⟨1, lookV V 63⟩ n (finish ⟨L, F, nt, X⟩ Try.f63 (sig F 63).res [AObj.box 3 [AV.int IntKind.i64 left]]) (finish ⟨L, F, nt, X⟩ Try.f63 (sig F 63).res [AObj.box 3 [AV.int IntKind.i64 left]]) (fun _ _ => none) [.block 1, .block 0, .seq (subc (bodyOf Try.f63) [1, 1, 1])]).2 (finish ⟨L, F, nt, X⟩ Try.f63 (sig F 63).res [AObj.box 3 [AV.int IntKind.i64 left]]) aT aC a b0 b1 b2 b3T b3C b3 n i17 i18 l19 c20).trans (congrArg (fun q => q aT aC a b3 n i17 i18 l19 c20) (congr (congrArg (f63_14_L nt X n) (show (fun i18 l19 c20 => (kNf ⟨L, F, nt, X⟩ ⟨1, lookV V 63⟩ n (finish ⟨L, F, nt, X⟩ Try.f63 (sig F 63).res [AObj.box 3 [AV.int IntKind.i64 left]]) (finish ⟨L, F, nt, X⟩ Try.f63 (sig F 63).res [AObj.box 3 [AV.int IntKind.i64 left]]) (fun _ _ => none) [.block 1, .block 0, .seq (subc (bodyOf Try.f63) [1, 1, 1])]).2 1 (f63_14_X0 b0 b1 b2 b3T b3C b3 i18 l19 c20)) = (fun i18 l19 c20 => f63_14_P0 nt X n i18 l19 c20) from funext fun i18 => funext fun l19 => funext fun c20 => (f63_14_P0_q nt X n b0 b1 b2 b3T b3C b3 left i18 l19 c20))) (show (fun i17 i18 l19 c20 => (kNf ⟨L, F, nt, X⟩ ⟨1, lookV V 63⟩ n (finish ⟨L, F, nt, X⟩ Try.f63 (sig F 63).res [AObj.box 3 [AV.int IntKind.i64 left]]) (finish ⟨L, F, nt, X⟩ Try.f63 (sig F 63).res [AObj.box 3 [AV.int IntKind.i64 left]]) (fun _ _ => none) [.block 1, .block 0, .seq (subc (bodyOf Try.f63) [1, 1, 1])]).2 1 (f63_14_X1 b0 b1 b2 b3T b3C b3 i17 i18 l19 c20)) = (fun i17 i18 l19 c20 => f63_14_P1 nt X n i18 l19 c20) from funext fun i17 => funext fun i18 => funext fun l19 => funext fun c20 => (f63_14_P1_q nt X n b0 b1 b2 b3T b3C b3 left i17 i18 l19 c20)))))))

def f19_J6 (nt : Nat) (X : Call') (n : Nat) (r16 : List AV × List AObj) (b18 : Bool) : Option (List AV × List AObj) :=
  (bif b18 then some (([AV.agg [AV.int IntKind.u8 0, AV.int IntKind.i64 0, AV.str [], AV.ps 0 34 (Cp.mk true true) [], AV.int IntKind.i64 0], AV.int IntKind.i64 8], [])) else some (([AV.agg [AV.int IntKind.u8 (AV.toI (nth AV.u (AV.toCells (nth AV.u (Prod.fst r16) 0)) 0)), AV.int IntKind.i64 (AV.toI (nth AV.u (AV.toCells (nth AV.u (Prod.fst r16) 0)) 1)), AV.str (AV.toS (nth AV.u (AV.toCells (nth AV.u (Prod.fst r16) 0)) 2)), AV.ps (AV.toTg (nth AV.u (AV.toCells (nth AV.u (Prod.fst r16) 0)) 3)) 34 (AV.toCp (nth AV.u (AV.toCells (nth AV.u (Prod.fst r16) 0)) 3)) (AV.toR (nth AV.u (AV.toCells (nth AV.u (Prod.fst r16) 0)) 3)), AV.int IntKind.i64 (AV.toI (nth AV.u (AV.toCells (nth AV.u (Prod.fst r16) 0)) 4))], AV.int IntKind.i64 0], [])))
def f19_J2 (nt : Nat) (X : Call') (n : Nat) (aT : Nat) (aC : Cp) (a : List Row) (b0 : Int) (b1 : Int) (b2 : List UInt8) (b3T : Nat) (b3C : Cp) (b3 : List Row) (b15 : Bool) : Option (List AV × List AObj) :=
  (bif b15 then some (([AV.agg [AV.int IntKind.u8 0, AV.int IntKind.i64 0, AV.str [], AV.ps 0 34 (Cp.mk true true) [], AV.int IntKind.i64 0], AV.int IntKind.i64 2], [])) else ((X 63 [AV.ps aT 73 aC a, AV.agg [AV.int IntKind.u8 b0, AV.int IntKind.i64 b1, AV.str b2, AV.ps b3T 26 b3C b3], AV.ptr 0 0 0 0] [AObj.box 3 [AV.int IntKind.i64 512]]).bind fun r16 => (bif decide (AV.toI (nth AV.u (AObj.toRow (nth AObj.dead (Prod.snd r16) 0)) 0) < 0) then f19_J6 nt X n r16 (true) else ((X 64 [AV.agg [AV.int IntKind.u8 (AV.toI (nth AV.u (AV.toCells (nth AV.u (Prod.fst r16) 0)) 0)), AV.int IntKind.i64 (AV.toI (nth AV.u (AV.toCells (nth AV.u (Prod.fst r16) 0)) 1)), AV.str (AV.toS (nth AV.u (AV.toCells (nth AV.u (Prod.fst r16) 0)) 2)), AV.ps (AV.toTg (nth AV.u (AV.toCells (nth AV.u (Prod.fst r16) 0)) 3)) 34 (AV.toCp (nth AV.u (AV.toCells (nth AV.u (Prod.fst r16) 0)) 3)) (AV.toR (nth AV.u (AV.toCells (nth AV.u (Prod.fst r16) 0)) 3)), AV.int IntKind.i64 (AV.toI (nth AV.u (AV.toCells (nth AV.u (Prod.fst r16) 0)) 4))]] []).bind fun r17 => f19_J6 nt X n r16 (!AV.toB (nth AV.u (AV.toCells (nth AV.u (Prod.fst r17) 0)) 0))))))
def f19 (nt : Nat) (X : Call') (n : Nat) (aT : Nat) (aC : Cp) (a : List Row) (b0 : Int) (b1 : Int) (b2 : List UInt8) (b3T : Nat) (b3C : Cp) (b3 : List Row) : Option (List AV × List AObj) :=
  ((X 40 [AV.ps aT 73 aC a] []).bind fun r13 => (bif !AV.toB (nth AV.u (AV.toCells (nth AV.u (Prod.fst r13) 0)) 0) then f19_J2 nt X n aT aC a b0 b1 b2 b3T b3C b3 (true) else ((X 62 [AV.agg [AV.int IntKind.u8 b0, AV.int IntKind.i64 b1, AV.str b2, AV.ps b3T 26 b3C b3]] []).bind fun r14 => f19_J2 nt X n aT aC a b0 b1 b2 b3T b3C b3 (!AV.toB (nth AV.u (AV.toCells (nth AV.u (Prod.fst r14) 0)) 0)))))
theorem f19_q (nt : Nat) (X : Call') (n : Nat) (aT : Nat) (aC : Cp) (a : List Row) (b0 : Int) (b1 : Int) (b2 : List UInt8) (b3T : Nat) (b3C : Cp) (b3 : List Row) : evBody ⟨L, F, nt, X⟩ (lookV V 19) n Try.f19 (sig F 19).res [AV.ps aT 73 aC a, AV.agg [AV.int IntKind.u8 b0, AV.int IntKind.i64 b1, AV.str b2, AV.ps b3T 26 b3C b3]] [] = f19 nt X n aT aC a b0 b1 b2 b3T b3C b3 := by kernel_rfl


def nil34 : AV := .ps 0 34 ⟨true, true⟩ []
def getR (nt : Nat) (l : List Row) (s : List UInt8) : Row := match l.find? (fun r => decide ((nth .u r 0).toS = s)) with | some r => ownAt nt r 1 | none => z34
mutual
/-- what an expression works out to, and how many parts are left -/
def workR (nt : Nat) (l : List Row) : Ex → Int → Row × Int
  | .mk k n s es, left =>
    bif decide (k = 1) then ([.int .u8 1, .int .i64 n, .str [], nil34, .int .i64 0], w64 (left - 1))
    else bif decide (k = 2) then ([.int .u8 2, .int .i64 0, .str s, nil34, .int .i64 0], w64 (left - 1))
    else bif decide (k = 4) then (getR nt l s, w64 (left - measure (vlOf (getR nt l s))))
    else bif decide (k = 3) then ([.int .u8 3, .int .i64 0, .str [], .ps nt 34 ⟨empty (workRs nt l es left).1, false⟩ (workRs nt l es left).1, .int .i64 0], w64 ((workRs nt l es left).2 - 1))
    else (z34, w64 (left - 1))
def workRs (nt : Nat) (l : List Row) : List Ex → Int → List Row × Int
  | [], left => ([], left)
  | e :: es, left => bif decide (left < 0) then ([], left) else ((workR nt l e left).1 :: (workRs nt l es (workR nt l e left).2).1, (workRs nt l es (workR nt l e left).2).2)
end
def Five (r : Row) : Prop := [.int .u8 (nth .u (r) 0).toI, .int .i64 (nth .u (r) 1).toI, .str (nth .u (r) 2).toS, .ps (nth .u (r) 3).toTg 34 (nth .u (r) 3).toCp (nth .u (r) 3).toR, .int .i64 (nth .u (r) 4).toI] = r
theorem five_getR (nt : Nat) (l : List Row) (s : List UInt8) : Five (getR nt l s) := by
  unfold Five getR
  cases l.find? (fun r => decide ((nth .u r 0).toS = s)) with
  | none => rfl
  | some r => exact ownAt_eta nt r 1
theorem five_workR (nt : Nat) (l : List Row) (e : Ex) (left : Int) : Five (workR nt l e left).1 := by
  cases e
  rename_i k n s es
  simp only [workR]
  have hg := five_getR nt l s
  cases decide (k = 1)
  · cases decide (k = 2)
    · cases decide (k = 4)
      · cases decide (k = 3)
        · rfl
        · rfl
      · exact hg
    · rfl
  · rfl
theorem sz_getR (nt : Nat) (l : List Row) (s : List UInt8) : szL (getR nt l s) ≤ 6 * szR l + 12 := by
  unfold getR
  cases hf : l.find? (fun r => decide ((nth .u r 0).toS = s)) with
  | none => simp [z34, szL, sz, szR]
  | some r =>
    have h1 := sz_ownAt nt r 1
    have h2 := sz_mem (List.mem_of_find?_eq_some hf)
    simp only
    omega
def sp63 (nt m : Nat) : Sp
  | [.ps _ 73 _ l, .agg [.int .u8 k, .int .i64 n, .str s, .ps _ 26 _ el], .ptr 0 0 0 0], [.box 3 [.int .i64 left]] =>
    bif Nat.blt (szR l) big2 && Nat.blt (szR el) m then some ([.agg (workR nt l (.mk k n s (exsOf el)) left).1], [.box 3 [.int .i64 (workR nt l (.mk k n s (exsOf el)) left).2]]) else none
  | _, _ => none
theorem f63_loop {nt m n : Nat} {h63 : Facts nt 63 (sp63 nt m)} {T : Nat} {C : Cp} {l el : List Row} (hm : m < big2) (hl : szR el < m + 1) (hn : Nat.blt (szR l) big2 = true) : ∀ (fu j : Nat) (left : Int) (acc : List Row) (cc : Cp), j ≤ el.length → el.length - j < fu → acc.length ≤ j →
    f63_14_L nt (tab [⟨63, sp63 nt m, h63⟩, ⟨36, sp36 nt, told36 nt⟩, ⟨107, sp107, told107 nt⟩]) n (fun i18 l19 c20 => f63_14_P0 nt (tab [⟨63, sp63 nt m, h63⟩, ⟨36, sp36 nt, told36 nt⟩, ⟨107, sp107, told107 nt⟩]) n i18 l19 c20) (fun i17 i18 l19 c20 => f63_14_P1 nt (tab [⟨63, sp63 nt m, h63⟩, ⟨36, sp36 nt, told36 nt⟩, ⟨107, sp107, told107 nt⟩]) n i18 l19 c20) T C l el fu j left acc cc =
      some ([.agg [.int .u8 3, .int .i64 0, .str [], .ps nt 34 ⟨cc.nl && empty (workRs nt l (exsOf (el.drop j)) left).1, false⟩ (acc ++ (workRs nt l (exsOf (el.drop j)) left).1), .int .i64 0]], [.box 3 [.int .i64 (w64 ((workRs nt l (exsOf (el.drop j)) left).2 - 1))]])
  | 0, j, left, acc, cc, h1, h2, h3 => by omega
  | fu + 1, j, left, acc, cc, h1, h2, ha => by
    have hlen : el.length ≤ szR el := szR_len el
    by_cases hk : j < el.length
    · have hmm := nth_mem (d := []) hk
      have hs := sz_mem hmm
      have s3 := sz_nth (nth [] el j) 3
      have h3 : decide ((j : Int) < (el.length : Int)) = true := by simp only [decide_eq_true_eq]; omega
      have h4 : decide ((0 : Int) ≤ (j : Int)) = true := by simp only [decide_eq_true_eq]; omega
      have hw := wrap_i64_nat (k := j) (by unfold big2 at hm; omega)
      have hg : Nat.blt (szR (nth .u (nth [] el j) 3).toR) m = true := by rw [nblt]; omega
      have e : tab [⟨63, sp63 nt m, h63⟩, ⟨36, sp36 nt, told36 nt⟩, ⟨107, sp107, told107 nt⟩] 63 [.ps T 73 C l, .agg [.int .u8 (nth .u (nth [] el j) 0).toI, .int .i64 (nth .u (nth [] el j) 1).toI, .str (nth .u (nth [] el j) 2).toS, .ps (nth .u (nth [] el j) 3).toTg 26 (nth .u (nth [] el j) 3).toCp (nth .u (nth [] el j) 3).toR], .ptr 0 0 0 0] [.box 3 [.int .i64 left]] = some ([.agg (workR nt l (exOf (nth [] el j)) left).1], [.box 3 [.int .i64 (workR nt l (exOf (nth [] el j)) left).2]]) := by
        rw [tab_hit]; simp only [sp63, hn, hg, Bool.and_self, cond_true, exOf_eq]
      have hbl : Nat.ble ((acc.length + 1) * 64) 1099511627776 = true := by rw [nble]; unfold big2 at hm; omega
      have h5 := five_workR nt l (exOf (nth [] el j)) left
      unfold Five at h5
      rw [drop_nth hk]
      simp only [exsOf, List.map_cons, workRs]
      rw [← exsOf]
      simp only [f63_14_L, f63_14, h3, h4, Bool.and_self, cond_true, Int.toNat_natCast, e, Option.bind_some, toI_int, toRow_box, toCells_agg, nth_zero, hbl, hw, h5]
      cases decide (left < 0)
      · simp only [cond_false]
        rw [f63_loop hm hl hn fu (j + 1) _ _ _ (by omega) (by omega) (by simp; omega)]
        simp only [List.append_assoc, List.singleton_append, Bool.and_false, Bool.false_and, empty]
      · simp only [cond_true, f63_14_P1, w64_def, List.append_nil, empty, Bool.and_true]
    · obtain rfl : j = el.length := by omega
      have h3 : decide (((el.length : Nat) : Int) < (el.length : Int)) = false := by simp
      simp only [f63_14_L, f63_14, h3, List.drop_length, exsOf, List.map_nil, workRs, cond_false, f63_14_P0, w64_def, List.append_nil, empty, Bool.and_true]
theorem told63_step {nt m : Nat} (hm : m < big2) (h63 : Facts nt 63 (sp63 nt m)) : Facts nt 63 (sp63 nt (m + 1)) := fun args h rs h' hv => by
  unfold sp63 at hv
  split at hv
  · rename_i T C l k n s t c el left
    cases hb : (Nat.blt (szR l) big2 && Nat.blt (szR el) (m + 1))
    · rw [hb] at hv; cases hv
    · rw [hb] at hv
      simp only [Bool.and_eq_true] at hb
      obtain ⟨hn, he⟩ := hb
      have he' := he
      rw [nblt] at he'
      refine fact_tab Try.func63 [⟨63, sp63 nt m, h63⟩, ⟨36, sp36 nt, told36 nt⟩, ⟨107, sp107, told107 nt⟩] (el.length + 1) ?_
      have e36 : tab [⟨63, sp63 nt m, h63⟩, ⟨36, sp36 nt, told36 nt⟩, ⟨107, sp107, told107 nt⟩] 36 [.ps T 73 C l, .str s] [] = (match l.find? (fun r => decide ((nth .u r 0).toS = s)) with | some r => some ([.agg (ownAt nt r 1), .bool true], []) | none => some ([.agg z34, .bool false], [])) := by
        rw [tab_miss rfl, tab_hit]; simp only [sp36, hn, cond_true]; rfl
      have e36' : ∃ b, tab [⟨63, sp63 nt m, h63⟩, ⟨36, sp36 nt, told36 nt⟩, ⟨107, sp107, told107 nt⟩] 36 [.ps T 73 C l, .str s] [] = some ([.agg (getR nt l s), .bool b], []) := by
        rw [e36]
        unfold getR
        cases l.find? (fun r => decide ((nth .u r 0).toS = s)) with
        | none => exact ⟨false, rfl⟩
        | some r => exact ⟨true, rfl⟩
      obtain ⟨b, e36'⟩ := e36'
      have h5 := five_getR nt l s
      unfold Five at h5
      have hsz : Nat.blt (szR (nth .u (getR nt l s) 3).toR) huge = true := by
        have h1 := sz_getR nt l s
        have h2 := sz_nth (getR nt l s) 3
        rw [nblt] at hn ⊢
        unfold big2 at hn; unfold huge; omega
      have e107 : tab [⟨63, sp63 nt m, h63⟩, ⟨36, sp36 nt, told36 nt⟩, ⟨107, sp107, told107 nt⟩] 107 [.agg (getR nt l s)] [] = some ([.int .i64 (measure (vlOf (getR nt l s)))], []) := by
        rw [tab_miss rfl, tab_miss rfl, tab_hit, vlOf_eq]
        conv => lhs; rw [← h5]
        simp only [sp107, hsz, cond_true]
      have hl := f63_loop (nt := nt) (n := el.length + 1) (h63 := h63) (T := T) (C := C) (l := l) hm he' hn (el.length + 1) 0 left [] ⟨true, true⟩ (by omega) (by omega) (by simp)
      simp only [List.drop_zero, List.nil_append, Bool.true_and, Int.natCast_zero, Int.ofNat_zero] at hl
      rw [f63_q, ← hv]
      simp only [f63, f63_R, hl, e36', e107, Option.bind_some, toCells_agg, toCells_int, toI_int, nth_zero, h5, cond_true, workR, w64_def, nil34, z34]
      cases decide (k = 1) <;> cases decide (k = 2) <;> cases decide (k = 4) <;> cases decide (k = 3) <;> rfl
  · cases hv
theorem told63 (nt : Nat) : ∀ m, m ≤ big2 → Facts nt 63 (sp63 nt m)
  | 0, _ => fun args h rs h' hv => by
    unfold sp63 at hv
    split at hv
    · rw [show Nat.blt (szR _) 0 = false from by cases hq : Nat.blt (szR _) 0; rfl; rw [nblt] at hq; omega, Bool.and_false] at hv; cases hv
    · cases hv
  | m + 1, hm => told63_step (by omega) (told63 nt m (by omega))
mutual
/-- how much an expression is -/
def nEx : Ex → Nat
  | .mk k n s es => 1 + s.length + nExs es
def nExs : List Ex → Nat
  | [] => 0
  | e :: es => nEx e + nExs es
end
mutual
theorem sz_workR (nt : Nat) (l : List Row) : ∀ (e : Ex) (left : Int), szL (workR nt l e left).1 + 1 ≤ nEx e * (6 * szR l + 14)
  | .mk k n s es, left => by
    have hg := sz_getR nt l s
    have hs := sz_workRs nt l es left
    have h1 : nEx (.mk k n s es) * (6 * szR l + 14) = (6 * szR l + 14) + s.length * (6 * szR l + 14) + nExs es * (6 * szR l + 14) := by
      simp only [nEx, Nat.add_mul, Nat.one_mul]
    have h2 : s.length ≤ s.length * (6 * szR l + 14) := Nat.le_mul_of_pos_right _ (by omega)
    rw [h1]
    simp only [workR]
    cases decide (k = 1)
    · cases decide (k = 2)
      · cases decide (k = 4)
        · cases decide (k = 3)
          · simp [z34, szL, sz, szR]; omega
          · simp only [cond_true, cond_false, szL, sz, szR, List.length_nil]; omega
        · simp only [cond_true, cond_false]; omega
      · simp only [cond_true, cond_false, szL, sz, szR, nil34]; omega
    · simp only [cond_true, szL, sz, szR, nil34, List.length_nil]; omega
theorem sz_workRs (nt : Nat) (l : List Row) : ∀ (es : List Ex) (left : Int), szR (workRs nt l es left).1 ≤ nExs es * (6 * szR l + 14)
  | [], left => by simp [workRs, szR]
  | e :: es, left => by
    have h1 := sz_workR nt l e left
    have h2 := sz_workRs nt l es (workR nt l e left).2
    simp only [workRs, nExs, Nat.add_mul]
    cases decide (left < 0)
    · simp only [cond_false, szR]; omega
    · simp [szR]
end
theorem nEx_of : ∀ (m : Nat) (r : Row), szL r < m → nEx (exOf r) ≤ szL r + 1
  | 0, r, h => by omega
  | m + 1, r, h => by
    have hl : ∀ q : List Row, szR q ≤ szL r → nExs (exsOf q) ≤ szR q := by
      intro q
      induction q with
      | nil => intro _; simp [exsOf, nExs]
      | cons x xs ih =>
        intro hx
        simp only [szR] at hx
        simp only [exsOf, List.map_cons, nExs, szR]
        have := nEx_of m x (by omega)
        have := ih (by omega)
        unfold exsOf at this
        omega
    have h2 := sz_two r
    have h3 := hl (nth .u r 3).toR (sz_nth r 3)
    rw [exOf_eq]
    simp only [nEx]
    omega
theorem nExs_of (q : List Row) : nExs (exsOf q) ≤ szR q := by
  induction q with
  | nil => simp [exsOf, nExs]
  | cons x xs ih =>
    simp only [exsOf, List.map_cons, nExs, szR] at ih ⊢
    have := nEx_of _ x (Nat.lt_succ_self _)
    omega
def lim : Nat := 67108864
/-- Work's answer -/
def workA (nt : Nat) (l : List Row) (e : Ex) : List AV × List AObj :=
  bif mayNames (nmsOf l) && orNoEx e then
    (bif decide ((workR nt l e 512).2 < 0) || !mayV (vlOf (workR nt l e 512).1) then ([.agg z34, .int .i64 8], []) else ([.agg (workR nt l e 512).1, .int .i64 0], []))
  else ([.agg z34, .int .i64 2], [])
def sp19 (nt : Nat) : Sp
  | [.ps _ 73 _ l, .agg [.int .u8 k, .int .i64 n, .str s, .ps _ 26 _ el]], [] => bif Nat.blt (szR l) lim && Nat.blt (s.length + szR el) lim then some (workA nt l (.mk k n s (exsOf el))) else none
  | _, _ => none
def TS19 (nt : Nat) : List (Told nt) := [⟨40, sp40, told40 nt⟩, ⟨62, sp62, told62 nt⟩, ⟨63, sp63 nt big2, told63 nt big2 (Nat.le_refl _)⟩, ⟨64, sp64, told64 nt⟩]
theorem told19 (nt : Nat) : Facts nt 19 (sp19 nt) := fun args h rs h' hv => by
  unfold sp19 at hv
  split at hv
  · rename_i T C l k n s t c el
    cases hb : (Nat.blt (szR l) lim && Nat.blt (s.length + szR el) lim)
    · rw [hb] at hv; cases hv
    · rw [hb] at hv
      simp only [Bool.and_eq_true, nblt] at hb
      obtain ⟨hn, he⟩ := hb
      have g1 : Nat.blt (szR l) big = true := by rw [nblt]; unfold lim at hn; unfold big; omega
      have g2 : Nat.blt (szR l) big2 = true := by rw [nblt]; unfold lim at hn; unfold big2; omega
      have g3 : Nat.blt (szR el) big = true := by rw [nblt]; unfold lim at he; unfold big; omega
      have g4 : Nat.blt (szR el) big2 = true := by rw [nblt]; unfold lim at he; unfold big2; omega
      have hsz : szL (workR nt l (.mk k n s (exsOf el)) 512).1 < huge := by
        have h1 := sz_workR nt l (.mk k n s (exsOf el)) 512
        have h2 := nExs_of el
        have h3 : nEx (.mk k n s (exsOf el)) ≤ 1 + s.length + szR el := by simp only [nEx]; omega
        have h4 : nEx (.mk k n s (exsOf el)) * (6 * szR l + 14) ≤ (67108864 + 1) * (6 * 67108864 + 14) := Nat.mul_le_mul (by unfold lim at he; omega) (by unfold lim at hn; omega)
        unfold huge; omega
      have g5 : Nat.blt (szR (nth .u (workR nt l (.mk k n s (exsOf el)) 512).1 3).toR) huge = true := by
        rw [nblt]; have := sz_nth (workR nt l (.mk k n s (exsOf el)) 512).1 3; omega
      have h5 := five_workR nt l (.mk k n s (exsOf el)) 512
      unfold Five at h5
      refine fact_tab Try.func19 (TS19 nt) 1 ?_
      rw [f19_q, ← hv]
      generalize hX : tab (TS19 nt) = X
      unfold TS19 at hX
      have x40 : X 40 [.ps T 73 C l] [] = some ([.bool (mayNames (nmsOf l))], []) := by rw [← hX, tab_hit]; simp only [sp40, g1, cond_true]
      have x62 : X 62 [.agg [.int .u8 k, .int .i64 n, .str s, .ps t 26 c el]] [] = some ([.bool (orNoEx (.mk k n s (exsOf el)))], []) := by rw [← hX, tab_miss rfl, tab_hit]; simp only [sp62, g3, cond_true]
      have x63 : X 63 [.ps T 73 C l, .agg [.int .u8 k, .int .i64 n, .str s, .ps t 26 c el], .ptr 0 0 0 0] [.box 3 [.int .i64 512]] = some ([.agg (workR nt l (.mk k n s (exsOf el)) 512).1], [.box 3 [.int .i64 (workR nt l (.mk k n s (exsOf el)) 512).2]]) := by
        rw [← hX, tab_miss rfl, tab_miss rfl, tab_hit]; simp only [sp63, g2, g4, Bool.and_self, cond_true]
      have x64 : X 64 [.agg (workR nt l (.mk k n s (exsOf el)) 512).1] [] = some ([.bool (mayV (vlOf (workR nt l (.mk k n s (exsOf el)) 512).1))], []) := by
        rw [← hX, tab_miss rfl, tab_miss rfl, tab_miss rfl, tab_hit, vlOf_eq]
        conv => lhs; rw [← h5]
        simp only [sp64, g5, cond_true]
      clear hX
      simp only [f19, f19_J2, f19_J6, x40, x62, x63, x64, Option.bind_some, toI_int, toB_bool, toCells_bool, toCells_agg, toRow_box, nth_zero, h5, workA, cond_true, z34]
      cases mayNames (nmsOf l)
      · rfl
      cases orNoEx (.mk k n s (exsOf el))
      · rfl
      by_cases hd : (workR nt l (.mk k n s (exsOf el)) 512).2 < 0
      · simp only [hd, decide_true, Bool.not_true, cond_false, cond_true, Bool.true_or, Bool.and_self]
      · simp only [hd, decide_false, Bool.not_true, cond_false, Bool.false_or, Bool.and_self, cond_true]
        cases mayV (vlOf (workR nt l (.mk k n s (exsOf el)) 512).1) <;> rfl
  · cases hv
end Go.Ev.T
