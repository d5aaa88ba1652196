/- Function 10 (CodeMany), decompiled, and what it comes to. -/
import Derived.Test.YtljiamlnpmhpmaaF45
import Derived.Test.YtljiamlnpmhpmaaF35
import Derived.Test.YtljiamlnpmhpmaaF17
set_option linter.unusedVariables false
set_option linter.unusedSimpArgs false
noncomputable section
namespace Go.Ev.T
open Go Go.Ev Go.Proofs
def zs : Row := [.int .u8 0, .str [], .str [], .int .u8 0, .int .u8 0, .int .u8 0, .int .i64 0, .str [], .ps 0 26 ⟨true, true⟩ [], .int .u8 0, .int .i64 0, .str [], .ps 0 26 ⟨true, true⟩ [], .ps 0 58 ⟨true, true⟩ [], .ps 0 58 ⟨true, true⟩ [], .ps 0 58 ⟨true, true⟩ [], .ps 0 9 ⟨true, true⟩ []]
def f10_3_S (i6 : Int) (l7 : List Row) : St := St.mk [AV.u, AV.own 0 0, AV.int IntKind.i64 i6, AV.u, AV.u, AV.u, AV.u, AV.u, AV.u, AV.u, AV.u, AV.u, AV.u, AV.u, AV.u, AV.u, AV.u, AV.u, AV.u, AV.u, AV.u, AV.u, AV.u, AV.u, AV.u, AV.u, AV.u, AV.u, AV.u, AV.u, AV.u, AV.u, AV.u, AV.u, AV.u, AV.u, AV.u, AV.u, AV.u, AV.u, AV.u, AV.u, AV.u, AV.u, AV.u, AV.u, AV.u, AV.u, AV.u, AV.u, AV.u, AV.u, AV.u, AV.u, AV.u, AV.u, AV.u, AV.u, AV.u, AV.u, AV.u, AV.u, AV.u, AV.u, AV.u, AV.u, AV.u, AV.u, AV.u, AV.u, AV.u, AV.u, AV.u, AV.u, AV.u, AV.u, AV.u, AV.u, AV.u, AV.u, AV.u, AV.u, AV.u, AV.u, AV.u, AV.u, AV.u, AV.u, AV.u, AV.u, AV.u, AV.u, AV.u, AV.u, AV.u, AV.u, AV.u, AV.u, AV.u, AV.u, AV.u, AV.u, AV.u, AV.u, AV.u, AV.u, AV.u, AV.u, AV.u, AV.u, AV.u, AV.u, AV.u, AV.u, AV.u, AV.u, AV.u, AV.u, AV.u, AV.u, AV.u, AV.u, AV.u, AV.u, AV.u, AV.u, AV.u, AV.u, AV.u, AV.u, AV.u, AV.u, AV.u, AV.u, AV.u, AV.u, AV.u, AV.u] [AObj.arr 58 l7 (Cp.mk false true) 0 0]
def f10_3_X0 (l7 : List Row) : St := St.mk [AV.u, AV.own 0 0, AV.u, AV.u, AV.u, AV.u, AV.u, AV.u, AV.u, AV.u, AV.u, AV.u, AV.u, AV.u, AV.u, AV.u, AV.u, AV.u, AV.u, AV.u, AV.u, AV.u, AV.u, AV.u, AV.u, AV.u, AV.u, AV.u, AV.u, AV.u, AV.u, AV.u, AV.u, AV.u, AV.u, AV.u, AV.u, AV.u, AV.u, AV.u, AV.u, AV.u, AV.u, AV.u, AV.u, AV.u, AV.u, AV.u, AV.u, AV.u, AV.u, AV.u, AV.u, AV.u, AV.u, AV.u, AV.u, AV.u, AV.u, AV.u, AV.u, AV.u, AV.u, AV.u, AV.u, AV.u, AV.u, AV.u, AV.u, AV.u, AV.u, AV.u, AV.u, AV.u, AV.u, AV.u, AV.u, AV.u, AV.u, AV.u, AV.u, AV.u, AV.u, AV.u, AV.u, AV.u, AV.u, AV.u, AV.u, AV.u, AV.u, AV.u, AV.u, AV.u, AV.u, AV.u, AV.u, AV.u, AV.u, AV.u, AV.u, AV.u, AV.u, AV.u, AV.u, AV.u, AV.u, AV.u, AV.u, AV.u, AV.u, AV.u, AV.u, AV.u, AV.u, AV.u, AV.u, AV.u, AV.u, AV.u, AV.u, AV.u, AV.u, AV.u, AV.u, AV.u, AV.u, AV.u, AV.u, AV.u, AV.u, AV.u, AV.u, AV.u, AV.u, AV.u, AV.u, AV.u] [AObj.arr 58 l7 (Cp.mk false true) 0 0]
def f10_3 {ρ : Type} (nt : Nat) (X : Call') (n : Nat) (kN : Int → List Row → Option ρ) (x0 : List Row → Option ρ) (i6 : Int) (l7 : List Row) : Option ρ :=
  (bif decide (i6 < (↑(List.length l7) : Int)) then ((X 50 [AV.int IntKind.i64 i6] []).bind fun r8 => ((X 49 [AV.str [UInt8.ofNat 120], AV.agg [AV.int IntKind.u8 (AV.toI (nth AV.u (AV.toCells (nth AV.u (Prod.fst r8) 0)) 0)), AV.int IntKind.i64 (AV.toI (nth AV.u (AV.toCells (nth AV.u (Prod.fst r8) 0)) 1)), AV.str (AV.toS (nth AV.u (AV.toCells (nth AV.u (Prod.fst r8) 0)) 2)), AV.ps (AV.toTg (nth AV.u (AV.toCells (nth AV.u (Prod.fst r8) 0)) 3)) 26 (AV.toCp (nth AV.u (AV.toCells (nth AV.u (Prod.fst r8) 0)) 3)) (AV.toR (nth AV.u (AV.toCells (nth AV.u (Prod.fst r8) 0)) 3))]] []).bind fun r9 => (bif decide (0 ≤ i6) && decide (i6 < (↑(List.length l7) : Int)) then kN (IntKind.wrap IntKind.i64 (i6 + 1)) (upd l7 (Int.toNat i6) [AV.int IntKind.u8 (AV.toI (nth AV.u (AV.toCells (nth AV.u (Prod.fst r9) 0)) 0)), AV.str (AV.toS (nth AV.u (AV.toCells (nth AV.u (Prod.fst r9) 0)) 1)), AV.str (AV.toS (nth AV.u (AV.toCells (nth AV.u (Prod.fst r9) 0)) 2)), AV.int IntKind.u8 (AV.toI (nth AV.u (AV.toCells (nth AV.u (Prod.fst r9) 0)) 3)), AV.int IntKind.u8 (AV.toI (nth AV.u (AV.toCells (nth AV.u (Prod.fst r9) 0)) 4)), AV.int IntKind.u8 (AV.toI (nth AV.u (AV.toCells (nth AV.u (Prod.fst r9) 0)) 5)), AV.int IntKind.i64 (AV.toI (nth AV.u (AV.toCells (nth AV.u (Prod.fst r9) 0)) 6)), AV.str (AV.toS (nth AV.u (AV.toCells (nth AV.u (Prod.fst r9) 0)) 7)), AV.ps (AV.toTg (nth AV.u (AV.toCells (nth AV.u (Prod.fst r9) 0)) 8)) 26 (AV.toCp (nth AV.u (AV.toCells (nth AV.u (Prod.fst r9) 0)) 8)) (AV.toR (nth AV.u (AV.toCells (nth AV.u (Prod.fst r9) 0)) 8)), AV.int IntKind.u8 (AV.toI (nth AV.u (AV.toCells (nth AV.u (Prod.fst r9) 0)) 9)), AV.int IntKind.i64 (AV.toI (nth AV.u (AV.toCells (nth AV.u (Prod.fst r9) 0)) 10)), AV.str (AV.toS (nth AV.u (AV.toCells (nth AV.u (Prod.fst r9) 0)) 11)), AV.ps (AV.toTg (nth AV.u (AV.toCells (nth AV.u (Prod.fst r9) 0)) 12)) 26 (AV.toCp (nth AV.u (AV.toCells (nth AV.u (Prod.fst r9) 0)) 12)) (AV.toR (nth AV.u (AV.toCells (nth AV.u (Prod.fst r9) 0)) 12)), AV.ps (AV.toTg (nth AV.u (AV.toCells (nth AV.u (Prod.fst r9) 0)) 13)) 58 (AV.toCp (nth AV.u (AV.toCells (nth AV.u (Prod.fst r9) 0)) 13)) (AV.toR (nth AV.u (AV.toCells (nth AV.u (Prod.fst r9) 0)) 13)), AV.ps (AV.toTg (nth AV.u (AV.toCells (nth AV.u (Prod.fst r9) 0)) 14)) 58 (AV.toCp (nth AV.u (AV.toCells (nth AV.u (Prod.fst r9) 0)) 14)) (AV.toR (nth AV.u (AV.toCells (nth AV.u (Prod.fst r9) 0)) 14)), AV.ps (AV.toTg (nth AV.u (AV.toCells (nth AV.u (Prod.fst r9) 0)) 15)) 58 (AV.toCp (nth AV.u (AV.toCells (nth AV.u (Prod.fst r9) 0)) 15)) (AV.toR (nth AV.u (AV.toCells (nth AV.u (Prod.fst r9) 0)) 15)), AV.ps (AV.toTg (nth AV.u (AV.toCells (nth AV.u (Prod.fst r9) 0)) 16)) 9 (AV.toCp (nth AV.u (AV.toCells (nth AV.u (Prod.fst r9) 0)) 16)) (AV.toR (nth AV.u (AV.toCells (nth AV.u (Prod.fst r9) 0)) 16))]) else none))) else x0 l7)
theorem f10_3_q {ρ : Type} (nt : Nat) (X : Call') (n : Nat) (kN : St → Option ρ) (kX : Nat → St → Option ρ) (kR : St → Option ρ) (i6 : Int) (l7 : List Row) : stepL ⟨L, F, nt, X⟩ ⟨0, lookV V 10⟩ n (subc (bodyOf Try.f10) [1, 1, 0, 1, 0, 0]) (look (lookV V 10) 3).xl kX kR (fun s => kN ((clean 0 1 (look (lookV V 10) 3) []) s)) (f10_3_S i6 l7) = f10_3 nt X n (fun i6 l7 => kN (f10_3_S i6 l7)) (fun l7 => kX 0 (f10_3_X0 l7)) i6 l7 := by kernel_rfl
def f10_3_L {ρ : Type} (nt : Nat) (X : Call') (n : Nat) (x0 : List Row → Option ρ)  : Nat → Int → List Row → Option ρ
  | 0, _, _ => none
  | m + 1, i6, l7 => f10_3 nt X n (fun i6 l7 => f10_3_L nt X n x0  m i6 l7) x0 i6 l7
theorem f10_3_e {ρ : Type} (nt : Nat) (X : Call') (n : Nat) (kX : Nat → St → Option ρ) (kR : St → Option ρ)  (m : Nat) (i6 : Int) (l7 : List Row) : loopN (stepL ⟨L, F, nt, X⟩ ⟨0, lookV V 10⟩ n (subc (bodyOf Try.f10) [1, 1, 0, 1, 0, 0]) (look (lookV V 10) 3).xl kX kR) (clean 0 1 (look (lookV V 10) 3) []) m (f10_3_S i6 l7) = f10_3_L nt X n (fun l7 => kX 0 (f10_3_X0 l7))  m i6 l7 :=
  loopN_ind (α := Int × List Row) (fun w => ((fun i6 l7 => (f10_3_S i6 l7))) w.1 w.2) (fun k w => ((fun i6 l7 => f10_3 nt X n (fun i6 l7 => k (i6, l7)) (fun l7 => kX 0 (f10_3_X0 l7)) i6 l7)) w.1 w.2) (fun m w => ((fun i6 l7 => f10_3_L nt X n (fun l7 => kX 0 (f10_3_X0 l7))  m i6 l7)) w.1 w.2) (fun _ => rfl) (fun _ _ => rfl) (fun kN w => ((fun i6 l7 => f10_3_q nt X n kN kX kR i6 l7)) w.1 w.2) m (i6, l7)
def f10_8_S (l7 : List Row) (i11 : Int) (l12 : List Row) : St := St.mk [AV.u, AV.own 0 0, AV.u, AV.own 1 0, AV.int IntKind.i64 i11, AV.u, AV.u, AV.u, AV.u, AV.u, AV.u, AV.u, AV.u, AV.u, AV.u, AV.u, AV.u, AV.u, AV.u, AV.u, AV.u, AV.u, AV.u, AV.u, AV.u, AV.u, AV.u, AV.u, AV.u, AV.u, AV.u, AV.u, AV.u, AV.u, AV.u, AV.u, AV.u, AV.u, AV.u, AV.u, AV.u, AV.u, AV.u, AV.u, AV.u, AV.u, AV.u, AV.u, AV.u, AV.u, AV.u, AV.u, AV.u, AV.u, AV.u, AV.u, AV.u, AV.u, AV.u, AV.u, AV.u, AV.u, AV.u, AV.u, AV.u, AV.u, AV.u, AV.u, AV.u, AV.u, AV.u, AV.u, AV.u, AV.u, AV.u, AV.u, AV.u, AV.u, AV.u, AV.u, AV.u, AV.u, AV.u, AV.u, AV.u, AV.u, AV.u, AV.u, AV.u, AV.u, AV.u, AV.u, AV.u, AV.u, AV.u, AV.u, AV.u, AV.u, AV.u, AV.u, AV.u, AV.u, AV.u, AV.u, AV.u, AV.u, AV.u, AV.u, AV.u, AV.u, AV.u, AV.u, AV.u, AV.u, AV.u, AV.u, AV.u, AV.u, AV.u, AV.u, AV.u, AV.u, AV.u, AV.u, AV.u, AV.u, AV.u, AV.u, AV.u, AV.u, AV.u, AV.u, AV.u, AV.u, AV.u, AV.u, AV.u, AV.u] [AObj.arr 58 l7 (Cp.mk false true) 0 0, AObj.arr 58 l12 (Cp.mk false true) 0 0]
def f10_8_X0 (l7 : List Row) (l12 : List Row) : St := St.mk [AV.u, AV.own 0 0, AV.u, AV.own 1 0, AV.u, AV.u, AV.u, AV.u, AV.u, AV.u, AV.u, AV.u, AV.u, AV.u, AV.u, AV.u, AV.u, AV.u, AV.u, AV.u, AV.u, AV.u, AV.u, AV.u, AV.u, AV.u, AV.u, AV.u, AV.u, AV.u, AV.u, AV.u, AV.u, AV.u, AV.u, AV.u, AV.u, AV.u, AV.u, AV.u, AV.u, AV.u, AV.u, AV.u, AV.u, AV.u, AV.u, AV.u, AV.u, AV.u, AV.u, AV.u, AV.u, AV.u, AV.u, AV.u, AV.u, AV.u, AV.u, AV.u, AV.u, AV.u, AV.u, AV.u, AV.u, AV.u, AV.u, AV.u, AV.u, AV.u, AV.u, AV.u, AV.u, AV.u, AV.u, AV.u, AV.u, AV.u, AV.u, AV.u, AV.u, AV.u, AV.u, AV.u, AV.u, AV.u, AV.u, AV.u, AV.u, AV.u, AV.u, AV.u, AV.u, AV.u, AV.u, AV.u, AV.u, AV.u, AV.u, AV.u, AV.u, AV.u, AV.u, AV.u, AV.u, AV.u, AV.u, AV.u, AV.u, AV.u, AV.u, AV.u, AV.u, AV.u, AV.u, AV.u, AV.u, AV.u, AV.u, AV.u, AV.u, AV.u, AV.u, AV.u, AV.u, AV.u, AV.u, AV.u, AV.u, AV.u, AV.u, AV.u, AV.u, AV.u, AV.u, AV.u, AV.u, AV.u] [AObj.arr 58 l7 (Cp.mk false true) 0 0, AObj.arr 58 l12 (Cp.mk false true) 0 0]
def f10_J9 {ρ : Type} (nt : Nat) (X : Call') (n : Nat) (kN : Int → List Row → Option ρ) (i11 : Int) (l14 : List Row) : Option ρ :=
  kN (IntKind.wrap IntKind.i64 (i11 + 1)) (l14)
def f10_8 {ρ : Type} (nt : Nat) (X : Call') (n : Nat) (kN : Int → List Row → Option ρ) (x0 : List Row → Option ρ) (i11 : Int) (l12 : List Row) : Option ρ :=
  (bif decide (i11 < 511) then ((X 47 [AV.str [UInt8.ofNat 120]] []).bind fun r13 => (bif decide (Int.tmod i11 2 = 0) then f10_J9 nt X n kN i11 ([[AV.int IntKind.u8 6, AV.str [], AV.str [], AV.int IntKind.u8 1, AV.int IntKind.u8 0, AV.int IntKind.u8 (AV.toI (nth AV.u (AV.toCells (nth AV.u (Prod.fst r13) 0)) 0)), AV.int IntKind.i64 (AV.toI (nth AV.u (AV.toCells (nth AV.u (Prod.fst r13) 0)) 1)), AV.str (AV.toS (nth AV.u (AV.toCells (nth AV.u (Prod.fst r13) 0)) 2)), AV.ps (AV.toTg (nth AV.u (AV.toCells (nth AV.u (Prod.fst r13) 0)) 3)) 26 (AV.toCp (nth AV.u (AV.toCells (nth AV.u (Prod.fst r13) 0)) 3)) (AV.toR (nth AV.u (AV.toCells (nth AV.u (Prod.fst r13) 0)) 3)), AV.int IntKind.u8 0, AV.int IntKind.i64 0, AV.str [], AV.ps 0 26 (Cp.mk true true) [], AV.ps nt 58 (Cp.mk false false) l12, AV.ps 0 58 (Cp.mk true true) [], AV.ps 0 58 (Cp.mk true true) [], AV.ps 0 9 (Cp.mk true true) []]]) else f10_J9 nt X n kN i11 ([[AV.int IntKind.u8 6, AV.str [], AV.str [], AV.int IntKind.u8 64, AV.int IntKind.u8 0, AV.int IntKind.u8 (AV.toI (nth AV.u (AV.toCells (nth AV.u (Prod.fst r13) 0)) 0)), AV.int IntKind.i64 (AV.toI (nth AV.u (AV.toCells (nth AV.u (Prod.fst r13) 0)) 1)), AV.str (AV.toS (nth AV.u (AV.toCells (nth AV.u (Prod.fst r13) 0)) 2)), AV.ps (AV.toTg (nth AV.u (AV.toCells (nth AV.u (Prod.fst r13) 0)) 3)) 26 (AV.toCp (nth AV.u (AV.toCells (nth AV.u (Prod.fst r13) 0)) 3)) (AV.toR (nth AV.u (AV.toCells (nth AV.u (Prod.fst r13) 0)) 3)), AV.int IntKind.u8 0, AV.int IntKind.i64 0, AV.str [], AV.ps 0 26 (Cp.mk true true) [], AV.ps nt 58 (Cp.mk false false) l12, AV.ps 0 58 (Cp.mk true true) [], AV.ps 0 58 (Cp.mk true true) [], AV.ps 0 9 (Cp.mk true true) []]]))) else x0 l12)
theorem f10_8_q {ρ : Type} (nt : Nat) (X : Call') (n : Nat) (kN : St → Option ρ) (kX : Nat → St → Option ρ) (kR : St → Option ρ) (l7 : List Row) (i11 : Int) (l12 : List Row) : stepL ⟨L, F, nt, X⟩ ⟨0, lookV V 10⟩ n (subc (bodyOf Try.f10) [1, 1, 1, 1, 0, 1, 0, 0]) (look (lookV V 10) 8).xl kX kR (fun s => kN ((clean 0 2 (look (lookV V 10) 8) [(Pl.mk 3 none 58, some 1)]) s)) (f10_8_S l7 i11 l12) = f10_8 nt X n (fun i11 l12 => kN (f10_8_S l7 i11 l12)) (fun l12 => kX 2 (f10_8_X0 l7 l12)) i11 l12 := by kernel_rfl
def f10_8_L {ρ : Type} (nt : Nat) (X : Call') (n : Nat) (x0 : List Row → Option ρ)  : Nat → Int → List Row → Option ρ
  | 0, _, _ => none
  | m + 1, i11, l12 => f10_8 nt X n (fun i11 l12 => f10_8_L nt X n x0  m i11 l12) x0 i11 l12
theorem f10_8_e {ρ : Type} (nt : Nat) (X : Call') (n : Nat) (kX : Nat → St → Option ρ) (kR : St → Option ρ) (l7 : List Row) (m : Nat) (i11 : Int) (l12 : List Row) : loopN (stepL ⟨L, F, nt, X⟩ ⟨0, lookV V 10⟩ n (subc (bodyOf Try.f10) [1, 1, 1, 1, 0, 1, 0, 0]) (look (lookV V 10) 8).xl kX kR) (clean 0 2 (look (lookV V 10) 8) [(Pl.mk 3 none 58, some 1)]) m (f10_8_S l7 i11 l12) = f10_8_L nt X n (fun l12 => kX 2 (f10_8_X0 l7 l12))  m i11 l12 :=
  loopN_ind (α := Int × List Row) (fun w => ((fun i11 l12 => (f10_8_S l7 i11 l12))) w.1 w.2) (fun k w => ((fun i11 l12 => f10_8 nt X n (fun i11 l12 => k (i11, l12)) (fun l12 => kX 2 (f10_8_X0 l7 l12)) i11 l12)) w.1 w.2) (fun m w => ((fun i11 l12 => f10_8_L nt X n (fun l12 => kX 2 (f10_8_X0 l7 l12))  m i11 l12)) w.1 w.2) (fun _ => rfl) (fun _ _ => rfl) (fun kN w => ((fun i11 l12 => f10_8_q nt X n kN kX kR l7 i11 l12)) w.1 w.2) m (i11, l12)
def f10_18_S (l7 : List Row) (l12 : List Row) (r15 : List AV × List AObj) (r16 : List AV × List AObj) (r17 : List AV × List AObj) (i18 : Int) (l19 : List Row) (c20 : Cp) : St := St.mk [AV.u, AV.own 0 0, AV.u, AV.u, AV.u, AV.int IntKind.i64 (AV.toI (nth AV.u (AV.toCells (nth AV.u (Prod.fst r15) 0)) 0)), AV.int IntKind.i64 (AV.toI (nth AV.u (AV.toCells (nth AV.u (Prod.fst r15) 1)) 0)), AV.int IntKind.i64 (AV.toI (nth AV.u (AV.toCells (nth AV.u (Prod.fst r16) 0)) 0)), AV.int IntKind.i64 (AV.toI (nth AV.u (AV.toCells (nth AV.u (Prod.fst r16) 1)) 0)), AV.int IntKind.i64 (AV.toI (nth AV.u (AV.toCells (nth AV.u (Prod.fst r17) 0)) 0)), AV.int IntKind.i64 (AV.toI (nth AV.u (AV.toCells (nth AV.u (Prod.fst r17) 1)) 0)), AV.own 4 0, AV.int IntKind.i64 i18, AV.u, AV.u, AV.u, AV.u, AV.u, AV.u, AV.u, AV.u, AV.u, AV.u, AV.u, AV.u, AV.u, AV.u, AV.u, AV.u, AV.u, AV.u, AV.u, AV.u, AV.u, AV.u, AV.u, AV.u, AV.u, AV.u, AV.u, AV.u, AV.u, AV.u, AV.u, AV.u, AV.u, AV.u, AV.u, AV.u, AV.u, AV.u, AV.u, AV.u, AV.u, AV.u, AV.u, AV.u, AV.u, AV.u, AV.u, AV.u, AV.u, AV.u, AV.u, AV.u, AV.u, AV.u, AV.u, AV.u, AV.u, AV.u, AV.u, AV.u, AV.u, AV.u, AV.u, AV.u, AV.u, AV.u, AV.u, AV.u, AV.u, AV.u, AV.u, AV.u, AV.u, AV.u, AV.u, AV.u, AV.u, AV.u, AV.u, AV.u, AV.u, AV.u, AV.u, AV.u, AV.u, AV.u, AV.u, AV.u, AV.u, AV.u, AV.u, AV.u, AV.u, AV.u, AV.u, AV.u, AV.u, AV.u, AV.u, AV.u, AV.u, AV.u, AV.u, AV.u, AV.u, AV.u, AV.u, AV.u, AV.u, AV.u, AV.u, AV.u, AV.u, AV.u, AV.u, AV.u, AV.u, AV.u, AV.u, AV.u, AV.u, AV.u, AV.u, AV.u, AV.u] [AObj.arr 58 l7 (Cp.mk false true) 0 (List.length l7), AObj.arr 58 l12 (Cp.mk false true) 0 (List.length l12), AObj.arr 58 (l7 ++ [[AV.int IntKind.u8 8, AV.str [], AV.str [], AV.int IntKind.u8 0, AV.int IntKind.u8 0, AV.int IntKind.u8 0, AV.int IntKind.i64 0, AV.str [], AV.ps 0 26 (Cp.mk true true) [], AV.int IntKind.u8 0, AV.int IntKind.i64 0, AV.str [], AV.ps 0 26 (Cp.mk true true) [], AV.ps 0 58 (Cp.mk true true) [], AV.ps 0 58 (Cp.mk true true) [], AV.ps 0 58 (Cp.mk true true) [], AV.ps 0 9 (Cp.mk true true) []]]) (Cp.mk (empty l7 && false) false) 0 (List.length (l7 ++ [[AV.int IntKind.u8 8, AV.str [], AV.str [], AV.int IntKind.u8 0, AV.int IntKind.u8 0, AV.int IntKind.u8 0, AV.int IntKind.i64 0, AV.str [], AV.ps 0 26 (Cp.mk true true) [], AV.int IntKind.u8 0, AV.int IntKind.i64 0, AV.str [], AV.ps 0 26 (Cp.mk true true) [], AV.ps 0 58 (Cp.mk true true) [], AV.ps 0 58 (Cp.mk true true) [], AV.ps 0 58 (Cp.mk true true) [], AV.ps 0 9 (Cp.mk true true) []]])), AObj.arr 58 [[AV.int IntKind.u8 8, AV.str [], AV.str [], AV.int IntKind.u8 0, AV.int IntKind.u8 0, AV.int IntKind.u8 0, AV.int IntKind.i64 0, AV.str [], AV.ps 0 26 (Cp.mk true true) [], AV.int IntKind.u8 0, AV.int IntKind.i64 0, AV.str [], AV.ps 0 26 (Cp.mk true true) [], AV.ps 0 58 (Cp.mk true true) [], AV.ps 0 58 (Cp.mk true true) [], AV.ps 0 58 (Cp.mk true true) [], AV.ps 0 9 (Cp.mk true true) []]] (Cp.mk false true) 0 0, AObj.arr 73 l19 c20 0 0]
def f10_18_X0 (l7 : List Row) (l12 : List Row) (r15 : List AV × List AObj) (r16 : List AV × List AObj) (r17 : List AV × List AObj) (l19 : List Row) (c20 : Cp) : St := St.mk [AV.u, AV.own 0 0, AV.u, AV.u, AV.u, AV.int IntKind.i64 (AV.toI (nth AV.u (AV.toCells (nth AV.u (Prod.fst r15) 0)) 0)), AV.int IntKind.i64 (AV.toI (nth AV.u (AV.toCells (nth AV.u (Prod.fst r15) 1)) 0)), AV.int IntKind.i64 (AV.toI (nth AV.u (AV.toCells (nth AV.u (Prod.fst r16) 0)) 0)), AV.int IntKind.i64 (AV.toI (nth AV.u (AV.toCells (nth AV.u (Prod.fst r16) 1)) 0)), AV.int IntKind.i64 (AV.toI (nth AV.u (AV.toCells (nth AV.u (Prod.fst r17) 0)) 0)), AV.int IntKind.i64 (AV.toI (nth AV.u (AV.toCells (nth AV.u (Prod.fst r17) 1)) 0)), AV.own 4 0, AV.u, AV.u, AV.u, AV.u, AV.u, AV.u, AV.u, AV.u, AV.u, AV.u, AV.u, AV.u, AV.u, AV.u, AV.u, AV.u, AV.u, AV.u, AV.u, AV.u, AV.u, AV.u, AV.u, AV.u, AV.u, AV.u, AV.u, AV.u, AV.u, AV.u, AV.u, AV.u, AV.u, AV.u, AV.u, AV.u, AV.u, AV.u, AV.u, AV.u, AV.u, AV.u, AV.u, AV.u, AV.u, AV.u, AV.u, AV.u, AV.u, AV.u, AV.u, AV.u, AV.u, AV.u, AV.u, AV.u, AV.u, AV.u, AV.u, AV.u, AV.u, AV.u, AV.u, AV.u, AV.u, AV.u, AV.u, AV.u, AV.u, AV.u, AV.u, AV.u, AV.u, AV.u, AV.u, AV.u, AV.u, AV.u, AV.u, AV.u, AV.u, AV.u, AV.u, AV.u, AV.u, AV.u, AV.u, AV.u, AV.u, AV.u, AV.u, AV.u, AV.u, AV.u, AV.u, AV.u, AV.u, AV.u, AV.u, AV.u, AV.u, AV.u, AV.u, AV.u, AV.u, AV.u, AV.u, AV.u, AV.u, AV.u, AV.u, AV.u, AV.u, AV.u, AV.u, AV.u, AV.u, AV.u, AV.u, AV.u, AV.u, AV.u, AV.u, AV.u, AV.u, AV.u] [AObj.arr 58 l7 (Cp.mk false true) 0 (List.length l7), AObj.arr 58 l12 (Cp.mk false true) 0 (List.length l12), AObj.arr 58 (l7 ++ [[AV.int IntKind.u8 8, AV.str [], AV.str [], AV.int IntKind.u8 0, AV.int IntKind.u8 0, AV.int IntKind.u8 0, AV.int IntKind.i64 0, AV.str [], AV.ps 0 26 (Cp.mk true true) [], AV.int IntKind.u8 0, AV.int IntKind.i64 0, AV.str [], AV.ps 0 26 (Cp.mk true true) [], AV.ps 0 58 (Cp.mk true true) [], AV.ps 0 58 (Cp.mk true true) [], AV.ps 0 58 (Cp.mk true true) [], AV.ps 0 9 (Cp.mk true true) []]]) (Cp.mk (empty l7 && false) false) 0 (List.length (l7 ++ [[AV.int IntKind.u8 8, AV.str [], AV.str [], AV.int IntKind.u8 0, AV.int IntKind.u8 0, AV.int IntKind.u8 0, AV.int IntKind.i64 0, AV.str [], AV.ps 0 26 (Cp.mk true true) [], AV.int IntKind.u8 0, AV.int IntKind.i64 0, AV.str [], AV.ps 0 26 (Cp.mk true true) [], AV.ps 0 58 (Cp.mk true true) [], AV.ps 0 58 (Cp.mk true true) [], AV.ps 0 58 (Cp.mk true true) [], AV.ps 0 9 (Cp.mk true true) []]])), AObj.arr 58 [[AV.int IntKind.u8 8, AV.str [], AV.str [], AV.int IntKind.u8 0, AV.int IntKind.u8 0, AV.int IntKind.u8 0, AV.int IntKind.i64 0, AV.str [], AV.ps 0 26 (Cp.mk true true) [], AV.int IntKind.u8 0, AV.int IntKind.i64 0, AV.str [], AV.ps 0 26 (Cp.mk true true) [], AV.ps 0 58 (Cp.mk true true) [], AV.ps 0 58 (Cp.mk true true) [], AV.ps 0 58 (Cp.mk true true) [], AV.ps 0 9 (Cp.mk true true) []]] (Cp.mk false true) 0 0, AObj.arr 73 l19 c20 0 0]
def f10_18 {ρ : Type} (nt : Nat) (X : Call') (n : Nat) (kN : Int → List Row → Cp → Option ρ) (x0 : List Row → Cp → Option ρ) (i18 : Int) (l19 : List Row) (c20 : Cp) : Option ρ :=
  (bif decide (i18 < 64) then (bif Nat.ble ((List.length l19 + 1) * 80) 1099511627776 then kN (IntKind.wrap IntKind.i64 (i18 + 1)) (l19 ++ [[AV.str [UInt8.ofNat 97, UInt8.ofNat (Int.toNat (IntKind.wrap IntKind.u8 (IntKind.wrap IntKind.i64 (97 + IntKind.wrap IntKind.i64 (Int.tdiv i18 8))))), UInt8.ofNat (Int.toNat (IntKind.wrap IntKind.u8 (IntKind.wrap IntKind.i64 (97 + Int.tmod i18 8))))], AV.int IntKind.u8 0, AV.int IntKind.i64 0, AV.str [], AV.ps 0 34 (Cp.mk true true) [], AV.int IntKind.i64 0]]) (Cp.mk (Cp.nl c20 && false) false) else none) else x0 l19 c20)
theorem f10_18_q {ρ : Type} (nt : Nat) (X : Call') (n : Nat) (kN : St → Option ρ) (kX : Nat → St → Option ρ) (kR : St → Option ρ) (l7 : List Row) (l12 : List Row) (r15 : List AV × List AObj) (r16 : List AV × List AObj) (r17 : List AV × List AObj) (i18 : Int) (l19 : List Row) (c20 : Cp) : stepL ⟨L, F, nt, X⟩ ⟨0, lookV V 10⟩ n (subc (bodyOf Try.f10) [1, 1, 1, 1, 1, 1, 1, 1, 1, 0, 1, 0, 0]) (look (lookV V 10) 18).xl kX kR (fun s => kN ((clean 0 5 (look (lookV V 10) 18) [(Pl.mk 11 none 73, some 4)]) s)) (f10_18_S l7 l12 r15 r16 r17 i18 l19 c20) = f10_18 nt X n (fun i18 l19 c20 => kN (f10_18_S l7 l12 r15 r16 r17 i18 l19 c20)) (fun l19 c20 => kX 4 (f10_18_X0 l7 l12 r15 r16 r17 l19 c20)) i18 l19 c20 := by kernel_rfl
def f10_18_L {ρ : Type} (nt : Nat) (X : Call') (n : Nat) (x0 : List Row → Cp → Option ρ)  : Nat → Int → List Row → Cp → Option ρ
  | 0, _, _, _ => none
  | m + 1, i18, l19, c20 => f10_18 nt X n (fun i18 l19 c20 => f10_18_L nt X n x0  m i18 l19 c20) x0 i18 l19 c20
theorem f10_18_e {ρ : Type} (nt : Nat) (X : Call') (n : Nat) (kX : Nat → St → Option ρ) (kR : St → Option ρ) (l7 : List Row) (l12 : List Row) (r15 : List AV × List AObj) (r16 : List AV × List AObj) (r17 : List AV × List AObj) (m : Nat) (i18 : Int) (l19 : List Row) (c20 : Cp) : loopN (stepL ⟨L, F, nt, X⟩ ⟨0, lookV V 10⟩ n (subc (bodyOf Try.f10) [1, 1, 1, 1, 1, 1, 1, 1, 1, 0, 1, 0, 0]) (look (lookV V 10) 18).xl kX kR) (clean 0 5 (look (lookV V 10) 18) [(Pl.mk 11 none 73, some 4)]) m (f10_18_S l7 l12 r15 r16 r17 i18 l19 c20) = f10_18_L nt X n (fun l19 c20 => kX 4 (f10_18_X0 l7 l12 r15 r16 r17 l19 c20))  m i18 l19 c20 :=
  loopN_ind (α := Int × List Row × Cp) (fun w => ((fun i18 l19 c20 => (f10_18_S l7 l12 r15 r16 r17 i18 l19 c20))) w.1 w.2.1 w.2.2) (fun k w => ((fun i18 l19 c20 => f10_18 nt X n (fun i18 l19 c20 => k (i18, l19, c20)) (fun l19 c20 => kX 4 (f10_18_X0 l7 l12 r15 r16 r17 l19 c20)) i18 l19 c20)) w.1 w.2.1 w.2.2) (fun m w => ((fun i18 l19 c20 => f10_18_L nt X n (fun l19 c20 => kX 4 (f10_18_X0 l7 l12 r15 r16 r17 l19 c20))  m i18 l19 c20)) w.1 w.2.1 w.2.2) (fun _ => rfl) (fun _ _ => rfl) (fun kN w => ((fun i18 l19 c20 => f10_18_q nt X n kN kX kR l7 l12 r15 r16 r17 i18 l19 c20)) w.1 w.2.1 w.2.2) m (i18, l19, c20)
def f10_18_P0 (nt : Nat) (X : Call') (n : Nat) (l7 : List Row) (r15 : List AV × List AObj) (r16 : List AV × List AObj) (r17 : List AV × List AObj) (l19 : List Row) (c20 : Cp) : Option (List AV × List AObj) :=
  ((X 45 [AV.ps nt 73 (Cp.mk (Cp.nl c20) false) l19, AV.str [UInt8.ofNat 109, UInt8.ofNat 111, UInt8.ofNat 114, UInt8.ofNat 101], AV.agg [AV.int IntKind.u8 0, AV.int IntKind.i64 0, AV.str [], AV.ps 0 34 (Cp.mk true true) [], AV.int IntKind.i64 0]] []).bind fun r21 => ((X 45 [AV.ps nt 73 (Cp.mk (Cp.nl c20) false) l19, AV.str [UInt8.ofNat 97, UInt8.ofNat 97, UInt8.ofNat 97], AV.agg [AV.int IntKind.u8 0, AV.int IntKind.i64 0, AV.str [], AV.ps 0 34 (Cp.mk true true) [], AV.int IntKind.i64 0]] []).bind fun r22 => (bif decide (AV.toI (nth AV.u (AV.toCells (nth AV.u (Prod.fst r15) 0)) 0) = 0) then (bif decide (AV.toI (nth AV.u (AV.toCells (nth AV.u (Prod.fst r15) 1)) 0) = 0) then (bif decide (AV.toI (nth AV.u (AV.toCells (nth AV.u (Prod.fst r16) 0)) 0) = 512) then (bif decide (AV.toI (nth AV.u (AV.toCells (nth AV.u (Prod.fst r16) 1)) 0) = 4) then (bif decide (AV.toI (nth AV.u (AV.toCells (nth AV.u (Prod.fst r17) 0)) 0) = 1) then (bif decide (AV.toI (nth AV.u (AV.toCells (nth AV.u (Prod.fst r17) 1)) 0) = 160) then ((X 32 [AV.ps nt 58 (Cp.mk false false) l7] []).bind fun r23 => (bif decide (AV.toI (nth AV.u (AV.toCells (nth AV.u (Prod.fst r23) 0)) 0) = 512) then ((X 40 [AV.ps nt 73 (Cp.mk (Cp.nl c20) false) l19] []).bind fun r24 => (bif AV.toB (nth AV.u (AV.toCells (nth AV.u (Prod.fst r24) 0)) 0) then (bif decide (AV.toI (nth AV.u (AV.toCells (nth AV.u (Prod.fst r21) 1)) 0) = 8) then (bif decide (AV.toI (nth AV.u (AV.toCells (nth AV.u (Prod.fst r22) 1)) 0) = 0) then ((X 17 [] []).bind fun r25 => some (([AV.bool (AV.toB (nth AV.u (AV.toCells (nth AV.u (Prod.fst r25) 0)) 0))], []))) else some (([AV.bool false], []))) else some (([AV.bool false], []))) else some (([AV.bool false], [])))) else some (([AV.bool false], [])))) else some (([AV.bool false], []))) else some (([AV.bool false], []))) else some (([AV.bool false], []))) else some (([AV.bool false], []))) else some (([AV.bool false], []))) else some (([AV.bool false], [])))))
theorem f10_18_P0_q (nt : Nat) (X : Call') (n : Nat) (l7 : List Row) (l12 : List Row) (r15 : List AV × List AObj) (r16 : List AV × List AObj) (r17 : List AV × List AObj) (l19 : List Row) (c20 : Cp) : (kNf ⟨L, F, nt, X⟩ ⟨0, lookV V 10⟩ n (finish ⟨L, F, nt, X⟩ Try.f10 (sig F 10).res []) (finish ⟨L, F, nt, X⟩ Try.f10 (sig F 10).res []) (fun _ _ => none) [.block 4, .seq (subc (bodyOf Try.f10) [1, 1, 1, 1, 1, 1, 1, 1, 1, 1])]).2 4 (f10_18_X0 l7 l12 r15 r16 r17 l19 c20) = f10_18_P0 nt X n l7 r15 r16 r17 l19 c20 := by kernel_rfl
def f10_8_P0_R (nt : Nat) (X : Call') (n : Nat) (L0 : List Row → List AV × List AObj → List AV × List AObj → List AV × List AObj → Int → List Row → Cp → Option (List AV × List AObj)) (l7 : List Row) (l12 : List Row) : Option (List AV × List AObj) :=
  ((X 28 [AV.ps nt 58 (Cp.mk false false) l7] []).bind fun r15 => (bif Nat.ble ((0 + List.length l7) * 256) 1099511627776 then (bif Nat.ble ((List.length l7 + 1) * 256) 1099511627776 then ((X 28 [AV.ps nt 58 (Cp.mk (empty l7 && false) false) (l7 ++ [[AV.int IntKind.u8 8, AV.str [], AV.str [], AV.int IntKind.u8 0, AV.int IntKind.u8 0, AV.int IntKind.u8 0, AV.int IntKind.i64 0, AV.str [], AV.ps 0 26 (Cp.mk true true) [], AV.int IntKind.u8 0, AV.int IntKind.i64 0, AV.str [], AV.ps 0 26 (Cp.mk true true) [], AV.ps 0 58 (Cp.mk true true) [], AV.ps 0 58 (Cp.mk true true) [], AV.ps 0 58 (Cp.mk true true) [], AV.ps 0 9 (Cp.mk true true) []]])] []).bind fun r16 => ((X 28 [AV.ps nt 58 (Cp.mk false false) l12] []).bind fun r17 => L0 l7 r15 r16 r17 (0) ([]) (Cp.mk true true))) else none) else none))
def f10_8_P0 (nt : Nat) (X : Call') (n : Nat) (l7 : List Row) (l12 : List Row) : Option (List AV × List AObj) :=
  f10_8_P0_R nt X n (fun l7 r15 r16 r17 i18 l19 c20 => f10_18_L nt X n (fun l19 c20 => f10_18_P0 nt X n l7 r15 r16 r17 l19 c20)  n i18 l19 c20) l7 l12
theorem f10_8_P0_q (nt : Nat) (X : Call') (n : Nat) (l7 : List Row) (l12 : List Row) : (kNf ⟨L, F, nt, X⟩ ⟨0, lookV V 10⟩ n (finish ⟨L, F, nt, X⟩ Try.f10 (sig F 10).res []) (finish ⟨L, F, nt, X⟩ Try.f10 (sig F 10).res []) (fun _ _ => none) [.block 2, .seq (subc (bodyOf Try.f10) [1, 1, 1, 1, 1])]).2 2 (f10_8_X0 l7 l12) = f10_8_P0 nt X n l7 l12 :=
  Eq.trans (b := f10_8_P0_R nt X n (fun l7 r15 r16 r17 i18 l19 c20 => loopN (stepL ⟨L, F, nt, X⟩ ⟨0, lookV V 10⟩ n (subc (bodyOf Try.f10) [1, 1, 1, 1, 1, 1, 1, 1, 1, 0, 1, 0, 0]) (look (lookV V 10) 18).xl (kNf ⟨L, F, nt, X⟩ ⟨0, lookV V 10⟩ n (finish ⟨L, F, nt, X⟩ Try.f10 (sig F 10).res []) (finish ⟨L, F, nt, X⟩ Try.f10 (sig F 10).res []) (fun _ _ => none) [.block 4, .seq (subc (bodyOf Try.f10) [1, 1, 1, 1, 1, 1, 1, 1, 1, 1])]).2 (finish ⟨L, F, nt, X⟩ Try.f10 (sig F 10).res [])) (clean 0 5 (look (lookV V 10) 18) [(Pl.mk 11 none 73, some 4)]) n (f10_18_S l7 l12 r15 r16 r17 i18 l19 c20)) l7 l12) (by kernel_rfl) (congrArg (fun q => q l7 l12) (congrArg (f10_8_P0_R nt X n ) (show (fun l7 r15 r16 r17 i18 l19 c20 => loopN (stepL ⟨L, F, nt, X⟩ ⟨0, lookV V 10⟩ n (subc (bodyOf Try.f10) [1, 1, 1, 1, 1, 1, 1, 1, 1, 0, 1, 0, 0]) (look (lookV V 10) 18).xl (kNf ⟨L, F, nt, X⟩ ⟨0, lookV V 10⟩ n (finish ⟨L, F, nt, X⟩ Try.f10 (sig F 10).res []) (finish ⟨L, F, nt, X⟩ Try.f10 (sig F 10).res []) (fun _ _ => none) [.block 4, .seq (subc (bodyOf Try.f10) [1, 1, 1, 1, 1, 1, 1, 1, 1, 1])]).2 (finish ⟨L, F, nt, X⟩ Try.f10 (sig F 10).res [])) (clean 0 5 (look (lookV V 10) 18) [(Pl.mk 11 none 73, some 4)]) n (f10_18_S l7 l12 r15 r16 r17 i18 l19 c20)) = _ from funext fun l7 => funext fun r15 => funext fun r16 => funext fun r17 => funext fun i18 => funext fun l19 => funext fun c20 => (f10_18_e nt X n (kNf ⟨L, F, nt, X⟩ ⟨0, lookV V 10⟩ n (finish ⟨L, F, nt, X⟩ Try.f10 (sig F 10).res []) (finish ⟨L, F, nt, X⟩ Try.f10 (sig F 10).res []) (fun _ _ => none) [.block 4, .seq (subc (bodyOf Try.f10) [1, 1, 1, 1, 1, 1, 1, 1, 1, 1])]).2 (finish ⟨L, F, nt, X⟩ Try.f10 (sig F 10).res []) l7 l12 r15 r16 r17 n i18 l19 c20).trans (congrArg (fun q => q  n i18 l19 c20) (congrArg (f10_18_L nt X n) (show (fun l19 c20 => (kNf ⟨L, F, nt, X⟩ ⟨0, lookV V 10⟩ n (finish ⟨L, F, nt, X⟩ Try.f10 (sig F 10).res []) (finish ⟨L, F, nt, X⟩ Try.f10 (sig F 10).res []) (fun _ _ => none) [.block 4, .seq (subc (bodyOf Try.f10) [1, 1, 1, 1, 1, 1, 1, 1, 1, 1])]).2 4 (f10_18_X0 l7 l12 r15 r16 r17 l19 c20)) = (fun l19 c20 => f10_18_P0 nt X n l7 r15 r16 r17 l19 c20) from funext fun l19 => funext fun c20 => (f10_18_P0_q nt X n l7 l12 r15 r16 r17 l19 c20)))))))
def f10_3_P0_R (nt : Nat) (X : Call') (n : Nat) (L1 : List Row → Int → List Row → Option (List AV × List AObj)) (l7 : List Row) : Option (List AV × List AObj) :=
  L1 l7 (0) ([[AV.int IntKind.u8 8, AV.str [], AV.str [], AV.int IntKind.u8 0, AV.int IntKind.u8 0, AV.int IntKind.u8 0, AV.int IntKind.i64 0, AV.str [], AV.ps 0 26 (Cp.mk true true) [], AV.int IntKind.u8 0, AV.int IntKind.i64 0, AV.str [], AV.ps 0 26 (Cp.mk true true) [], AV.ps 0 58 (Cp.mk true true) [], AV.ps 0 58 (Cp.mk true true) [], AV.ps 0 58 (Cp.mk true true) [], AV.ps 0 9 (Cp.mk true true) []]])
def f10_3_P0 (nt : Nat) (X : Call') (n : Nat) (l7 : List Row) : Option (List AV × List AObj) :=
  f10_3_P0_R nt X n (fun l7 i11 l12 => f10_8_L nt X n (fun l12 => f10_8_P0 nt X n l7 l12)  n i11 l12) l7
theorem f10_3_P0_q (nt : Nat) (X : Call') (n : Nat) (l7 : List Row) : (kNf ⟨L, F, nt, X⟩ ⟨0, lookV V 10⟩ n (finish ⟨L, F, nt, X⟩ Try.f10 (sig F 10).res []) (finish ⟨L, F, nt, X⟩ Try.f10 (sig F 10).res []) (fun _ _ => none) [.block 0, .seq (subc (bodyOf Try.f10) [1, 1, 1])]).2 0 (f10_3_X0 l7) = f10_3_P0 nt X n l7 :=
  Eq.trans (b := f10_3_P0_R nt X n (fun l7 i11 l12 => loopN (stepL ⟨L, F, nt, X⟩ ⟨0, lookV V 10⟩ n (subc (bodyOf Try.f10) [1, 1, 1, 1, 0, 1, 0, 0]) (look (lookV V 10) 8).xl (kNf ⟨L, F, nt, X⟩ ⟨0, lookV V 10⟩ n (finish ⟨L, F, nt, X⟩ Try.f10 (sig F 10).res []) (finish ⟨L, F, nt, X⟩ Try.f10 (sig F 10).res []) (fun _ _ => none) [.block 2, .seq (subc (bodyOf Try.f10) [1, 1, 1, 1, 1])]).2 (finish ⟨L, F, nt, X⟩ Try.f10 (sig F 10).res [])) (clean 0 2 (look (lookV V 10) 8) [(Pl.mk 3 none 58, some 1)]) n (f10_8_S l7 i11 l12)) l7) (by kernel_rfl) (congrArg (fun q => q l7) (congrArg (f10_3_P0_R nt X n ) (show (fun l7 i11 l12 => loopN (stepL ⟨L, F, nt, X⟩ ⟨0, lookV V 10⟩ n (subc (bodyOf Try.f10) [1, 1, 1, 1, 0, 1, 0, 0]) (look (lookV V 10) 8).xl (kNf ⟨L, F, nt, X⟩ ⟨0, lookV V 10⟩ n (finish ⟨L, F, nt, X⟩ Try.f10 (sig F 10).res []) (finish ⟨L, F, nt, X⟩ Try.f10 (sig F 10).res []) (fun _ _ => none) [.block 2, .seq (subc (bodyOf Try.f10) [1, 1, 1, 1, 1])]).2 (finish ⟨L, F, nt, X⟩ Try.f10 (sig F 10).res [])) (clean 0 2 (look (lookV V 10) 8) [(Pl.mk 3 none 58, some 1)]) n (f10_8_S l7 i11 l12)) = _ from funext fun l7 => funext fun i11 => funext fun l12 => (f10_8_e nt X n (kNf ⟨L, F, nt, X⟩ ⟨0, lookV V 10⟩ n (finish ⟨L, F, nt, X⟩ Try.f10 (sig F 10).res []) (finish ⟨L, F, nt, X⟩ Try.f10 (sig F 10).res []) (fun _ _ => none) [.block 2, .seq (subc (bodyOf Try.f10) [1, 1, 1, 1, 1])]).2 (finish ⟨L, F, nt, X⟩ Try.f10 (sig F 10).res []) l7 n i11 l12).trans (congrArg (fun q => q  n i11 l12) (congrArg (f10_8_L nt X n) (show (fun l12 => (kNf ⟨L, F, nt, X⟩ ⟨0, lookV V 10⟩ n (finish ⟨L, F, nt, X⟩ Try.f10 (sig F 10).res []) (finish ⟨L, F, nt, X⟩ Try.f10 (sig F 10).res []) (fun _ _ => none) [.block 2, .seq (subc (bodyOf Try.f10) [1, 1, 1, 1, 1])]).2 2 (f10_8_X0 l7 l12)) = (fun l12 => f10_8_P0 nt X n l7 l12) from funext fun l12 => (f10_8_P0_q nt X n l7 l12)))))))
def f10_R (nt : Nat) (X : Call') (n : Nat) (L2 : Int → List Row → Option (List AV × List AObj))  : Option (List AV × List AObj) :=
  L2  (0) (List.replicate 512 zs)
def f10 (nt : Nat) (X : Call') (n : Nat)  : Option (List AV × List AObj) :=
  f10_R nt X n (fun i6 l7 => f10_3_L nt X n (fun l7 => f10_3_P0 nt X n l7)  n i6 l7) 
theorem f10_q (nt : Nat) (X : Call') (n : Nat)  : evBody ⟨L, F, nt, X⟩ (lookV V 10) n Try.f10 (sig F 10).res [] [] = f10 nt X n  :=
  Eq.trans (b := f10_R nt X n (fun i6 l7 => loopN (stepL ⟨L, F, nt, X⟩ ⟨0, lookV V 10⟩ n (subc (bodyOf Try.f10) [1, 1, 0, 1, 0, 0]) (look (lookV V 10) 3).xl (kNf ⟨L, F, nt, X⟩ ⟨0, lookV V 10⟩ n (finish ⟨L, F, nt, X⟩ Try.f10 (sig F 10).res []) (finish ⟨L, F, nt, X⟩ Try.f10 (sig F 10).res []) (fun _ _ => none) [.block 0, .seq (subc (bodyOf Try.f10) [1, 1, 1])]).2 (finish ⟨L, F, nt, X⟩ Try.f10 (sig F 10).res [])) (clean 0 1 (look (lookV V 10) 3) []) n (f10_3_S i6 l7)) ) (by kernel_rfl) (congrArg (fun q => q ) (congrArg (f10_R nt X n ) (show (fun i6 l7 => loopN (stepL ⟨L, F, nt, X⟩ ⟨0, lookV V 10⟩ n (subc (bodyOf Try.f10) [1, 1, 0, 1, 0, 0]) (look (lookV V 10) 3).xl (kNf ⟨L, F, nt, X⟩ ⟨0, lookV V 10⟩ n (finish ⟨L, F, nt, X⟩ Try.f10 (sig F 10).res []) (finish ⟨L, F, nt, X⟩ Try.f10 (sig F 10).res []) (fun _ _ => none) [.block 0, .seq (subc (bodyOf Try.f10) [1, 1, 1])]).2 (finish ⟨L, F, nt, X⟩ Try.f10 (sig F 10).res [])) (clean 0 1 (look (lookV V 10) 3) []) n (f10_3_S i6 l7)) = _ from funext fun i6 => funext fun l7 => (f10_3_e nt X n (kNf ⟨L, F, nt, X⟩ ⟨0, lookV V 10⟩ n (finish ⟨L, F, nt, X⟩ Try.f10 (sig F 10).res []) (finish ⟨L, F, nt, X⟩ Try.f10 (sig F 10).res []) (fun _ _ => none) [.block 0, .seq (subc (bodyOf Try.f10) [1, 1, 1])]).2 (finish ⟨L, F, nt, X⟩ Try.f10 (sig F 10).res [])  n i6 l7).trans (congrArg (fun q => q  n i6 l7) (congrArg (f10_3_L nt X n) (show (fun l7 => (kNf ⟨L, F, nt, X⟩ ⟨0, lookV V 10⟩ n (finish ⟨L, F, nt, X⟩ Try.f10 (sig F 10).res []) (finish ⟨L, F, nt, X⟩ Try.f10 (sig F 10).res []) (fun _ _ => none) [.block 0, .seq (subc (bodyOf Try.f10) [1, 1, 1])]).2 0 (f10_3_X0 l7)) = (fun l7 => f10_3_P0 nt X n l7) from funext fun l7 => (f10_3_P0_q nt X n l7)))))))

def f49 (nt : Nat) (X : Call') (n : Nat) (a : List UInt8) (b0 : Int) (b1 : Int) (b2 : List UInt8) (b3T : Nat) (b3C : Cp) (b3 : List Row) : Option (List AV × List AObj) :=
  some (([AV.agg [AV.int IntKind.u8 1, AV.str a, AV.str [], AV.int IntKind.u8 0, AV.int IntKind.u8 0, AV.int IntKind.u8 b0, AV.int IntKind.i64 b1, AV.str b2, AV.ps b3T 26 b3C b3, AV.int IntKind.u8 0, AV.int IntKind.i64 0, AV.str [], AV.ps 0 26 (Cp.mk true true) [], AV.ps 0 58 (Cp.mk true true) [], AV.ps 0 58 (Cp.mk true true) [], AV.ps 0 58 (Cp.mk true true) [], AV.ps 0 9 (Cp.mk true true) []]], []))
theorem f49_q (nt : Nat) (X : Call') (n : Nat) (a : List UInt8) (b0 : Int) (b1 : Int) (b2 : List UInt8) (b3T : Nat) (b3C : Cp) (b3 : List Row) : evBody ⟨L, F, nt, X⟩ (lookV V 49) n Try.f49 (sig F 49).res [AV.str a, AV.agg [AV.int IntKind.u8 b0, AV.int IntKind.i64 b1, AV.str b2, AV.ps b3T 26 b3C b3]] [] = f49 nt X n a b0 b1 b2 b3T b3C b3 := by kernel_rfl

def f50 (nt : Nat) (X : Call') (n : Nat) (a : Int) : Option (List AV × List AObj) :=
  some (([AV.agg [AV.int IntKind.u8 1, AV.int IntKind.i64 a, AV.str [], AV.ps 0 26 (Cp.mk true true) []]], []))
theorem f50_q (nt : Nat) (X : Call') (n : Nat) (a : Int) : evBody ⟨L, F, nt, X⟩ (lookV V 50) n Try.f50 (sig F 50).res [AV.int IntKind.i64 a] [] = f50 nt X n a := by kernel_rfl

def f47 (nt : Nat) (X : Call') (n : Nat) (a : List UInt8) : Option (List AV × List AObj) :=
  some (([AV.agg [AV.int IntKind.u8 4, AV.int IntKind.i64 0, AV.str a, AV.ps 0 26 (Cp.mk true true) []]], []))
theorem f47_q (nt : Nat) (X : Call') (n : Nat) (a : List UInt8) : evBody ⟨L, F, nt, X⟩ (lookV V 47) n Try.f47 (sig F 47).res [AV.str a] [] = f47 nt X n a := by kernel_rfl


def letRow (i : Int) : Row := [.int .u8 1, .str [120], .str [], .int .u8 0, .int .u8 0, .int .u8 1, .int .i64 i, .str [], .ps 0 26 ⟨true, true⟩ [], .int .u8 0, .int .i64 0, .str [], .ps 0 26 ⟨true, true⟩ [], .ps 0 58 ⟨true, true⟩ [], .ps 0 58 ⟨true, true⟩ [], .ps 0 58 ⟨true, true⟩ [], .ps 0 9 ⟨true, true⟩ []]
def failRow : Row := [.int .u8 8, .str [], .str [], .int .u8 0, .int .u8 0, .int .u8 0, .int .i64 0, .str [], .ps 0 26 ⟨true, true⟩ [], .int .u8 0, .int .i64 0, .str [], .ps 0 26 ⟨true, true⟩ [], .ps 0 58 ⟨true, true⟩ [], .ps 0 58 ⟨true, true⟩ [], .ps 0 58 ⟨true, true⟩ [], .ps 0 9 ⟨true, true⟩ []]
def canRow (nt : Nat) (ab : Int) (l : List Row) : Row := [.int .u8 6, .str [], .str [], .int .u8 ab, .int .u8 0, .int .u8 4, .int .i64 0, .str [120], .ps 0 26 ⟨true, true⟩ [], .int .u8 0, .int .i64 0, .str [], .ps 0 26 ⟨true, true⟩ [], .ps nt 58 ⟨false, false⟩ l, .ps 0 58 ⟨true, true⟩ [], .ps 0 58 ⟨true, true⟩ [], .ps 0 9 ⟨true, true⟩ []]
def deepL (nt : Nat) : Nat → List Row
  | 0 => [failRow]
  | i + 1 => [canRow nt (bif decide (Int.tmod (i : Int) 2 = 0) then 1 else 64) (deepL nt i)]
def sp49 : Sp
  | [.str a, .agg [.int .u8 k, .int .i64 n, .str s, .ps t 26 c l]], [] => some ([.agg [.int .u8 1, .str a, .str [], .int .u8 0, .int .u8 0, .int .u8 k, .int .i64 n, .str s, .ps t 26 c l, .int .u8 0, .int .i64 0, .str [], .ps 0 26 ⟨true, true⟩ [], .ps 0 58 ⟨true, true⟩ [], .ps 0 58 ⟨true, true⟩ [], .ps 0 58 ⟨true, true⟩ [], .ps 0 9 ⟨true, true⟩ []]], [])
  | _, _ => none
theorem told49 (nt : Nat) : Facts nt 49 sp49 := fun args h rs h' hv => by
  unfold sp49 at hv
  split at hv
  · refine fact_tab Try.func49 [] 1 ?_
    rw [f49_q, ← hv]; rfl
  · cases hv
def sp50 : Sp
  | [.int .i64 a], [] => some ([.agg [.int .u8 1, .int .i64 a, .str [], .ps 0 26 ⟨true, true⟩ []]], [])
  | _, _ => none
theorem told50 (nt : Nat) : Facts nt 50 sp50 := fun args h rs h' hv => by
  unfold sp50 at hv
  split at hv
  · refine fact_tab Try.func50 [] 1 ?_
    rw [f50_q, ← hv]; rfl
  · cases hv
def sp47 : Sp
  | [.str a], [] => some ([.agg [.int .u8 4, .int .i64 0, .str a, .ps 0 26 ⟨true, true⟩ []]], [])
  | _, _ => none
theorem told47 (nt : Nat) : Facts nt 47 sp47 := fun args h rs h' hv => by
  unfold sp47 at hv
  split at hv
  · refine fact_tab Try.func47 [] 1 ?_
    rw [f47_q, ← hv]; rfl
  · cases hv
def rowsI (k : Nat) : List Row := (List.range k).map fun (i : Nat) => letRow (i : Int)
theorem f10_rows {nt n : Nat} {X : Call'} (x50 : ∀ a, X 50 [.int .i64 a] [] = sp50 [.int .i64 a] []) (x49 : ∀ s k n t c l, X 49 [.str [120], .agg [.int .u8 k, .int .i64 n, .str s, .ps t 26 c l]] [] = sp49 [.str [120], .agg [.int .u8 k, .int .i64 n, .str s, .ps t 26 c l]] []) (x0 : List Row → Option (List AV × List AObj)) : ∀ (fu i : Nat), i ≤ 512 → 512 - i < fu →
    f10_3_L nt X n x0 fu i (rowsI i ++ List.replicate (512 - i) zs) = x0 (rowsI 512)
  | 0, i, h1, h2 => by omega
  | fu + 1, i, h1, h2 => by
    have hl : (rowsI i ++ List.replicate (512 - i) zs).length = 512 := by simp [rowsI]; omega
    by_cases hi : i < 512
    · have h3 : decide ((i : Int) < ((512 : Nat) : Int)) = true := by simp only [decide_eq_true_eq]; omega
      have h4 : decide ((0 : Int) ≤ (i : Int)) = true := by simp only [decide_eq_true_eq]; omega
      have hw := wrap_i64_nat (k := i) (by omega)
      have ih := f10_rows (nt := nt) (n := n) x50 x49 x0 fu (i + 1) (by omega) (by omega)
      have hri : (rowsI i).length = i := by simp [rowsI]
      have hu : upd (rowsI i ++ List.replicate (512 - i) zs) i (letRow i) = rowsI (i + 1) ++ List.replicate (512 - (i + 1)) zs := by
        rw [show 512 - i = (512 - (i + 1)) + 1 by omega, List.replicate_succ]
        have := upd_mid zs (letRow i) (rowsI i) (List.replicate (512 - (i + 1)) zs)
        rw [hri] at this
        rw [this]
        simp [rowsI, List.range_succ]
      unfold letRow at hu
      have u120 : UInt8.ofNat 120 = 120 := rfl
      simp only [f10_3_L, f10_3, hl, h3, h4, Bool.and_self, cond_true, x50, sp50, Option.bind_some, toI_int, toS_str, toTg_ps, toCp_ps, toR_ps, toCells_agg, nth_zero, nth_succ, u120, x49, sp49, Int.toNat_natCast, hu, hw, ih]
    · obtain rfl : i = 512 := by omega
      have h3 : decide (((512 : Nat) : Int) < ((512 : Nat) : Int)) = false := by decide
      have hz : rowsI 512 ++ List.replicate (512 - 512) zs = rowsI 512 := by simp
      rw [hz] at hl ⊢
      simp only [f10_3_L, f10_3, hl, h3, cond_false]
theorem f10_deep {nt n : Nat} {X : Call'} (x47 : ∀ a, X 47 [.str a] [] = sp47 [.str a] []) (x0 : List Row → Option (List AV × List AObj)) : ∀ (fu i : Nat), i ≤ 511 → 511 - i < fu →
    f10_8_L nt X n x0 fu i (deepL nt i) = x0 (deepL nt 511)
  | 0, i, h1, h2 => by omega
  | fu + 1, i, h1, h2 => by
    by_cases hi : i < 511
    · have h3 : decide ((i : Int) < 511) = true := by simp only [decide_eq_true_eq]; omega
      have hw := wrap_i64_nat (k := i) (by omega)
      have ih := f10_deep (nt := nt) (n := n) x47 x0 fu (i + 1) (by omega) (by omega)
      unfold deepL at ih
      unfold canRow at ih
      have u120 : UInt8.ofNat 120 = 120 := rfl
      simp only [f10_8_L, f10_8, h3, cond_true, x47, sp47, Option.bind_some, toI_int, toS_str, toTg_ps, toCp_ps, toR_ps, toCells_agg, nth_zero, nth_succ, f10_J9, hw, u120]
      cases hb : decide (Int.tmod (i : Int) 2 = 0)
      · rw [hb] at ih; exact ih
      · rw [hb] at ih; exact ih
    · obtain rfl : i = 511 := by omega
      have h3 : decide (((511 : Nat) : Int) < 511) = false := by decide
      simp only [f10_8_L, f10_8, h3, cond_false]
def nmRow10 (i : Nat) : Row := [.str [97, UInt8.ofNat (97 + i / 8), UInt8.ofNat (97 + i % 8)], .int .u8 0, .int .i64 0, .str [], .ps 0 34 ⟨true, true⟩ [], .int .i64 0]
def names10 : List Row := (List.range 64).map nmRow10
theorem names_run {nt : Nat} {X : Call'} {n : Nat} (x0 : List Row → Cp → Option (List AV × List AObj)) : f10_18_L nt X n x0 600 0 [] ⟨true, true⟩ = x0 names10 ⟨false, false⟩ := by kernel_rfl
theorem may_names10 : mayNames (nmsOf names10) = true := by kernel_rfl
theorem any_more : names10.any (isNm [109, 111, 114, 101]) = false := by kernel_rfl
theorem any_aaa : names10.any (isNm [97, 97, 97]) = true := by kernel_rfl
theorem sz_names10 : Nat.blt (szR names10) big2 = true := by kernel_rfl
end Go.Ev.T
namespace Go.Ev
open Go.Ev.T
theorem smOf_let (i : Int) : smOf (letRow i) = .mk 1 [120] [] 0 0 (.mk 1 i [] []) (.mk 0 0 [] []) [] [] [] [] := by rw [smOf_eq]; rfl
theorem smOf_fail : smOf failRow = .mk 8 [] [] 0 0 (.mk 0 0 [] []) (.mk 0 0 [] []) [] [] [] [] := by rw [smOf_eq]; rfl
theorem smOf_can (nt : Nat) (ab : Int) (l : List Row) : smOf (canRow nt ab l) = .mk 6 [] [] ab 0 (.mk 4 0 [120] []) (.mk 0 0 [] []) (smsOf l) [] [] [] := by rw [smOf_eq]; rfl
theorem may_let (i : Int) : maySm (smOf (letRow i)) = true := by rw [smOf_let]; rfl
theorem may_fail : maySm (smOf failRow) = true := by rw [smOf_fail]; rfl
theorem all_lets : ∀ (l : List Nat), allS (smsOf (l.map fun (i : Nat) => letRow (i : Int))) = smsOf (l.map fun (i : Nat) => letRow (i : Int))
  | [] => rfl
  | i :: l => by
    have ih := all_lets l
    simp only [smsOf, List.map_cons] at ih ⊢
    rw [smOf_let, allS_cons, ih]
    rfl
theorem sz_lets : ∀ (l : List Nat), T.szR (l.map fun (i : Nat) => letRow (i : Int)) = 19 * l.length
  | [] => rfl
  | i :: l => by
    simp only [List.map_cons, T.szR, sz_lets l, List.length_cons]
    have : T.szL (letRow (i : Int)) = 18 := by simp [letRow, T.szL, T.sz, T.szR]
    omega
theorem wf_lets : ∀ (l : List Nat), wfL (smsOf (l.map fun (i : Nat) => letRow (i : Int))) = true
  | [] => rfl
  | i :: l => by
    have ih := wf_lets l
    simp only [smsOf, List.map_cons] at ih ⊢
    rw [smOf_let]
    simp only [wfL, wfS, ih]
    rfl
theorem may_rows : mayC (smsOf (rowsI 512)) = true := by
  rw [mayC_iff, rowsI, all_lets]
  refine ⟨List.all_eq_true.2 fun s hs => ?_, by simp [smsOf]⟩
  simp only [smsOf, List.mem_map] at hs
  obtain ⟨r, ⟨i, _, rfl⟩, rfl⟩ := hs
  exact may_let i
theorem len_rows : (allS (smsOf (rowsI 512))).length = 512 := by rw [rowsI, all_lets]; simp [smsOf]
theorem check_rows : check (smsOf (rowsI 512)) = (0, 0) := by
  unfold check
  have := may_rows
  unfold mayC at this
  cases hq : ck (allS (smsOf (rowsI 512))) 0 with
  | none => rfl
  | some p => rw [hq] at this; cases this
theorem check_more : check (smsOf (rowsI 512 ++ [failRow])) = (512, 4) := by
  have h1 : smsOf (rowsI 512 ++ [failRow]) = smsOf (rowsI 512) ++ [smOf failRow] := by simp [smsOf]
  have h2 : allS [smOf failRow] = [smOf failRow] := by rw [smOf_fail]; rfl
  unfold check
  rw [h1, allS_append, h2, ck_long _ 0 (by omega) (by omega)]
  · rfl
  · rw [List.all_append, ((mayC_iff _).1 may_rows).1]
    simp only [List.all_cons, List.all_nil, may_fail, Bool.and_self]
  · rw [List.length_append, len_rows]; simp
theorem sz_deep (nt : Nat) : ∀ i, T.szR (deepL nt i) ≤ 22 * (i + 1)
  | 0 => by simp [deepL, T.szR, failRow, T.szL, T.sz]
  | i + 1 => by
    have ih := sz_deep nt i
    simp only [deepL, T.szR, canRow, T.szL, T.sz, List.length_cons, List.length_nil]
    omega
theorem wf_deep (nt : Nat) : ∀ i, wfL (smsOf (deepL nt i)) = true
  | 0 => by
    simp only [deepL, smsOf, List.map_cons, List.map_nil]
    rw [smOf_fail]; rfl
  | i + 1 => by
    have ih := wf_deep nt i
    simp only [deepL, smsOf, List.map_cons, List.map_nil] at ih ⊢
    rw [smOf_can]
    simp only [wfL, wfS, smsOf, ih]
    cases decide (Int.tmod (i : Int) 2 = 0) <;> rfl
theorem check_deep (nt : Nat) : check (smsOf (deepL nt 511)) = (1, 160) := by
  have h1 : deepL nt 511 = [canRow nt 1 [canRow nt 64 (deepL nt 509)]] := rfl
  unfold check
  rw [h1]
  simp only [smsOf, List.map_cons, List.map_nil]
  rw [smOf_can, allS_cons]
  simp only [smsOf, List.map_cons, List.map_nil]
  rw [smOf_can nt 64, allS_cons]
  rfl
end Go.Ev
namespace Go.Ev.T
open Go Go.Ev Go.Proofs
theorem told10 : Fact Try.prog L F 1 10 [] [] [.bool true] [] := by
  refine fact_tab Try.func10 [⟨28, sp28, told28 1⟩, ⟨32, sp32, told32 1⟩, ⟨17, sp17, told17 1⟩, ⟨40, sp40, told40 1⟩, ⟨45, sp45 1, told45 1⟩, ⟨47, sp47, told47 1⟩, ⟨49, sp49, told49 1⟩, ⟨50, sp50, told50 1⟩] 600 ?_
  rw [f10_q]
  generalize hX : tab [⟨28, sp28, told28 1⟩, ⟨32, sp32, told32 1⟩, ⟨17, sp17, told17 1⟩, ⟨40, sp40, told40 1⟩, ⟨45, sp45 1, told45 1⟩, ⟨47, sp47, told47 1⟩, ⟨49, sp49, told49 1⟩, ⟨50, sp50, told50 1⟩] = X
  have x28 : ∀ args, X 28 args [] = sp28 args [] := fun args => by rw [← hX, tab_hit]
  have x32 : ∀ args, X 32 args [] = sp32 args [] := fun args => by rw [← hX, tab_miss rfl, tab_hit]
  have x17 : X 17 [] [] = some ([.bool true], []) := by rw [← hX, tab_miss rfl, tab_miss rfl, tab_hit]; rfl
  have x40 : ∀ args, X 40 args [] = sp40 args [] := fun args => by rw [← hX, tab_miss rfl, tab_miss rfl, tab_miss rfl, tab_hit]
  have x45 : ∀ args, X 45 args [] = sp45 1 args [] := fun args => by rw [← hX, tab_miss rfl, tab_miss rfl, tab_miss rfl, tab_miss rfl, tab_hit]
  have x47 : ∀ a, X 47 [.str a] [] = sp47 [.str a] [] := fun a => by rw [← hX, tab_miss rfl, tab_miss rfl, tab_miss rfl, tab_miss rfl, tab_miss rfl, tab_hit]
  have x49 : ∀ s k n t c l, X 49 [.str [120], .agg [.int .u8 k, .int .i64 n, .str s, .ps t 26 c l]] [] = sp49 [.str [120], .agg [.int .u8 k, .int .i64 n, .str s, .ps t 26 c l]] [] := fun s k n t c l => by rw [← hX, tab_miss rfl, tab_miss rfl, tab_miss rfl, tab_miss rfl, tab_miss rfl, tab_miss rfl, tab_hit]
  have x50 : ∀ a, X 50 [.int .i64 a] [] = sp50 [.int .i64 a] [] := fun a => by rw [← hX, tab_miss rfl, tab_miss rfl, tab_miss rfl, tab_miss rfl, tab_miss rfl, tab_miss rfl, tab_miss rfl, tab_hit]
  clear hX
  have g1 : gC (rowsI 512) = true := by
    have := sz_lets (List.range 512)
    have hw := wf_lets (List.range 512)
    unfold rowsI gC
    rw [hw, this]; simp [big]
  have g2 : gC (rowsI 512 ++ [failRow]) = true := by
    have h1 := sz_lets (List.range 512)
    have hw := wf_lets (List.range 512)
    have hs : ∀ a b : List Row, szR (a ++ b) = szR a + szR b := by
      intro a b
      induction a with
      | nil => simp [szR]
      | cons x xs ih => simp only [List.cons_append, szR, ih]; omega
    have hf : szR [failRow] = 18 := by simp [failRow, szR, szL, sz]
    have hws : ∀ a b : List Sm, wfL (a ++ b) = (wfL a && wfL b) := by
      intro a b
      induction a with
      | nil => simp [wfL]
      | cons x xs ih => simp only [List.cons_append, wfL, ih, Bool.and_assoc]
    have hfl : wfL (smsOf [failRow]) = true := by
      simp only [smsOf, List.map_cons, List.map_nil]; rw [smOf_fail]; rfl
    unfold gC
    rw [hs, hf, show smsOf (rowsI 512 ++ [failRow]) = smsOf (rowsI 512) ++ smsOf [failRow] by simp [smsOf], hws, hfl]
    unfold rowsI
    rw [hw, h1]; simp [big]
  have g3 : gC (deepL 1 511) = true := by
    have h1 := sz_deep 1 511
    simp only [gC, wf_deep, Bool.and_true, nblt]
    unfold big; omega
  have hl : (rowsI 512).length = 512 := by simp [rowsI]
  have n1 : Nat.ble ((0 + 512) * 256) 1099511627776 = true := rfl
  have n2 : Nat.ble ((512 + 1) * 256) 1099511627776 = true := rfl
  have e1 := f10_rows (nt := 1) (n := 600) x50 x49 (fun l7 => f10_3_P0 1 X 600 l7) 600 0 (by omega) (by omega)
  have e2 := fun l7 => f10_deep (nt := 1) (n := 600) x47 (fun l12 => f10_8_P0 1 X 600 l7 l12) 600 0 (by omega) (by omega)
  have e3 := fun l7 r15 r16 r17 => names_run (nt := 1) (X := X) (n := 600) (fun l19 c20 => f10_18_P0 1 X 600 l7 r15 r16 r17 l19 c20)
  have hd0 : deepL 1 0 = [failRow] := rfl
  have hr0 : rowsI 0 ++ List.replicate (512 - 0) zs = List.replicate 512 zs := List.nil_append _
  rw [hr0] at e1
  rw [hd0] at e2
  unfold failRow at e2
  simp only [Int.natCast_zero, Int.ofNat_zero] at e1 e2
  unfold f10 f10_R
  dsimp only
  rw [e1]
  unfold f10_3_P0 f10_3_P0_R
  dsimp only
  rw [e2]
  unfold f10_8_P0 f10_8_P0_R
  dsimp only
  have hff : [AV.int IntKind.u8 8, AV.str [], AV.str [], AV.int IntKind.u8 0, AV.int IntKind.u8 0, AV.int IntKind.u8 0, AV.int IntKind.i64 0, AV.str [], AV.ps 0 26 (Cp.mk true true) [], AV.int IntKind.u8 0, AV.int IntKind.i64 0, AV.str [], AV.ps 0 26 (Cp.mk true true) [], AV.ps 0 58 (Cp.mk true true) [], AV.ps 0 58 (Cp.mk true true) [], AV.ps 0 58 (Cp.mk true true) [], AV.ps 0 9 (Cp.mk true true) []] = failRow := rfl
  simp only [x28, sp28, g1, g2, g3, hff, check_rows, check_more, check_deep, hl, n1, n2, cond_true, Option.bind_some, e3]
  have hz : sp45 1 [.ps 1 73 ⟨false, false⟩ names10, .str [109, 111, 114, 101], .agg [.int .u8 0, .int .i64 0, .str [], .ps 0 34 ⟨true, true⟩ [], .int .i64 0]] [] = some ([.ps 0 0 ⟨true, true⟩ [], .int .i64 8], []) := by
    have h1 : mayName [109, 111, 114, 101] = true := rfl
    have h2 : mayV (.mk 0 0 [] (vlsOf []) 0) = true := by kernel_rfl
    have h3 : decide ((64 : Int) ≤ (names10.length : Int)) = true := by kernel_rfl
    have h4 : Nat.blt (szR []) big2 = true := by kernel_rfl
    simp only [sp45, sz_names10, h4, Bool.not_false, Bool.true_or, Bool.and_self, cond_true, set45, may_names10, h1, h2, any_more, h3, cond_false]
  have hy : ∃ v, sp45 1 [.ps 1 73 ⟨false, false⟩ names10, .str [97, 97, 97], .agg [.int .u8 0, .int .i64 0, .str [], .ps 0 34 ⟨true, true⟩ [], .int .i64 0]] [] = some ([v, .int .i64 0], []) := by
    have h1 : mayName [97, 97, 97] = true := rfl
    have h2 : mayV (.mk 0 0 [] (vlsOf []) 0) = true := by kernel_rfl
    have h4 : Nat.blt (szR []) big2 = true := by kernel_rfl
    refine ⟨.ps 1 73 ⟨false, false⟩ (setRows' 1 names10 [97, 97, 97] (ownC 1 0 0 [] [] 0)), ?_⟩
    simp only [sp45, sz_names10, h4, Bool.not_false, Bool.true_or, Bool.and_self, cond_true, set45, may_names10, h1, h2, any_aaa]
  obtain ⟨v, hy⟩ := hy
  have u1 : [UInt8.ofNat 109, UInt8.ofNat 111, UInt8.ofNat 114, UInt8.ofNat 101] = [109, 111, 114, 101] := rfl
  have u2 : [UInt8.ofNat 97, UInt8.ofNat 97, UInt8.ofNat 97] = [97, 97, 97] := rfl
  have h32 : sp32 [.ps 1 58 ⟨false, false⟩ (rowsI 512)] [] = some ([.int .i64 512], []) := by
    simp only [sp32, g1, cond_true, sizeC, may_rows, len_rows]; rfl
  have h40 : sp40 [.ps 1 73 ⟨false, false⟩ names10] [] = some ([.bool true], []) := by
    have hb : Nat.blt (szR names10) big = true := by kernel_rfl
    simp only [sp40, hb, cond_true, may_names10]
  simp only [f10_18_P0, u1, u2, x45, hz, hy, x32, h32, x40, h40, x17, Option.bind_some, toI_int, toB_bool, toCells_int, toCells_bool, nth_zero, nth_1]
  rfl
end Go.Ev.T
