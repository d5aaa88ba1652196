/- Functions 134, 108, 64, 107 (value: take, measure, May, Parts), decompiled, and what they come to. -/
import Derived.Test.YtljiamlnpmhpmaaVal
import Derived.Test.YtljiamlnpmhpmaaF68
set_option linter.unusedVariables false
set_option linter.unusedSimpArgs false
noncomputable section
namespace Go.Ev
theorem w64_def (n : Int) : w64 n = IntKind.wrap .i64 n := rfl
theorem vlsOf_len (l : List Row) : (vlsOf l).length = l.length := by simp [vlsOf]
end Go.Ev
namespace Go.Ev.T
open Go Go.Ev Go.Proofs
def huge : Nat := 1152921504606846976
def f134_23_S (a0 : Int) (a1 : Int) (a2 : List UInt8) (a3T : Nat) (a3C : Cp) (a3 : List Row) (a4 : Int) (i15 : Int) (i16 : Int) (i17 : Int) : St := St.mk [AV.ptr 0 0 0 0, AV.u, AV.u, AV.u, AV.u, AV.ptr 2 0 0 0, AV.u, AV.u, AV.u, AV.u, AV.u, AV.u, AV.u, AV.u, AV.u, AV.u, AV.u, AV.u, AV.u, AV.u, AV.u, AV.u, AV.u, AV.u, AV.u, AV.u, AV.u, AV.u, AV.u, AV.u, AV.u, AV.u, AV.u, AV.u, AV.u, AV.u, AV.u, AV.u, AV.u, AV.u, AV.u, AV.u, AV.u, AV.u, AV.u, AV.u, AV.u, AV.u, AV.u, AV.u, AV.u, AV.u, AV.u, AV.u, AV.u, AV.u, AV.u, AV.u, AV.u, AV.u, AV.u, AV.u, AV.u, AV.u, AV.u, AV.u, AV.ps a3T 34 a3C a3, AV.int IntKind.i64 (↑(List.length a3) : Int), AV.int IntKind.i64 i15, AV.u, AV.u, AV.u, AV.u, AV.u, AV.u, AV.u, AV.u, AV.u, AV.u, AV.u, AV.u, AV.u, AV.u, AV.u, AV.u, AV.u, AV.u, AV.u, AV.u, AV.u, AV.u, AV.u, AV.u, AV.u, AV.u, AV.u, AV.u, AV.u, AV.u, AV.u, AV.u, AV.u, AV.u, AV.u] [AObj.box 152 [AV.int IntKind.i64 i16, AV.int IntKind.i64 i17], AObj.box 34 [AV.int IntKind.u8 a0, AV.int IntKind.i64 a1, AV.str a2, AV.ps a3T 34 a3C a3, AV.int IntKind.i64 a4], AObj.box 34 [AV.int IntKind.u8 a0, AV.int IntKind.i64 a1, AV.str a2, AV.ps a3T 34 a3C a3, AV.int IntKind.i64 a4]]
def f134_23_X0 (a0 : Int) (a1 : Int) (a2 : List UInt8) (a3T : Nat) (a3C : Cp) (a3 : List Row) (a4 : Int) (i16 : Int) (i17 : Int) : St := St.mk [AV.ptr 0 0 0 0, AV.u, AV.u, AV.u, AV.u, AV.ptr 2 0 0 0, AV.u, AV.u, AV.u, AV.u, AV.u, AV.u, AV.u, AV.u, AV.u, AV.u, AV.u, AV.u, AV.u, AV.u, AV.u, AV.u, AV.u, AV.u, AV.u, AV.u, AV.u, AV.u, AV.u, AV.u, AV.u, AV.u, AV.u, AV.u, AV.u, AV.u, AV.u, AV.u, AV.u, AV.u, AV.u, AV.u, AV.u, AV.u, AV.u, AV.u, AV.u, AV.u, AV.u, AV.u, AV.u, AV.u, AV.u, AV.u, AV.u, AV.u, AV.u, AV.u, AV.u, AV.u, AV.u, AV.u, AV.u, AV.u, AV.u, AV.u, AV.u, AV.u, AV.u, AV.u, AV.u, AV.u, AV.u, AV.u, AV.u, AV.u, AV.u, AV.u, AV.u, AV.u, AV.u, AV.u, AV.u, AV.u, AV.u, AV.u, AV.u, AV.u, AV.u, AV.u, AV.u, AV.u, AV.u, AV.u, AV.u, AV.u, AV.u, AV.u, AV.u, AV.u, AV.u, AV.u, AV.u, AV.u] [AObj.box 152 [AV.int IntKind.i64 i16, AV.int IntKind.i64 i17], AObj.box 34 [AV.int IntKind.u8 a0, AV.int IntKind.i64 a1, AV.str a2, AV.ps a3T 34 a3C a3, AV.int IntKind.i64 a4], AObj.box 34 [AV.int IntKind.u8 a0, AV.int IntKind.i64 a1, AV.str a2, AV.ps a3T 34 a3C a3, AV.int IntKind.i64 a4]]
def f134_23_X1 (a0 : Int) (a1 : Int) (a2 : List UInt8) (a3T : Nat) (a3C : Cp) (a3 : List Row) (a4 : Int) (i15 : Int) (r18 : List AV × List AObj) : St := St.mk [AV.ptr 0 0 0 0, AV.u, AV.u, AV.u, AV.bool false, AV.ptr 2 0 0 0, AV.u, AV.u, AV.u, AV.u, AV.u, AV.u, AV.u, AV.u, AV.u, AV.u, AV.u, AV.u, AV.u, AV.u, AV.u, AV.u, AV.u, AV.u, AV.u, AV.u, AV.u, AV.u, AV.u, AV.u, AV.u, AV.u, AV.u, AV.u, AV.u, AV.u, AV.u, AV.u, AV.u, AV.u, AV.u, AV.u, AV.u, AV.u, AV.u, AV.u, AV.u, AV.u, AV.u, AV.u, AV.u, AV.u, AV.u, AV.u, AV.u, AV.u, AV.u, AV.u, AV.u, AV.u, AV.u, AV.u, AV.u, AV.u, AV.u, AV.u, AV.u, AV.u, AV.u, AV.u, AV.u, AV.u, AV.u, AV.u, AV.u, AV.u, AV.u, AV.u, AV.u, AV.u, AV.u, AV.u, AV.u, AV.u, AV.u, AV.u, AV.u, AV.u, AV.u, AV.u, AV.u, AV.u, AV.u, AV.u, AV.u, AV.u, AV.u, AV.u, AV.u, AV.u, AV.u, AV.u, AV.u, AV.u] [AObj.box 152 [AV.int IntKind.i64 (AV.toI (nth AV.u (AObj.toRow (nth AObj.dead (Prod.snd r18) 0)) 0)), AV.int IntKind.i64 (AV.toI (nth AV.u (AObj.toRow (nth AObj.dead (Prod.snd r18) 0)) 1))], AObj.box 34 [AV.int IntKind.u8 a0, AV.int IntKind.i64 a1, AV.str a2, AV.ps a3T 34 a3C a3, AV.int IntKind.i64 a4], AObj.box 34 [AV.int IntKind.u8 a0, AV.int IntKind.i64 a1, AV.str a2, AV.ps a3T 34 a3C a3, AV.int IntKind.i64 a4], AObj.box 34 [AV.int IntKind.u8 (AV.toI (nth AV.u (nth [] a3 (Int.toNat i15)) 0)), AV.int IntKind.i64 (AV.toI (nth AV.u (nth [] a3 (Int.toNat i15)) 1)), AV.str (AV.toS (nth AV.u (nth [] a3 (Int.toNat i15)) 2)), AV.ps (AV.toTg (nth AV.u (nth [] a3 (Int.toNat i15)) 3)) 34 (AV.toCp (nth AV.u (nth [] a3 (Int.toNat i15)) 3)) (AV.toR (nth AV.u (nth [] a3 (Int.toNat i15)) 3)), AV.int IntKind.i64 (AV.toI (nth AV.u (nth [] a3 (Int.toNat i15)) 4))]]
def f134_23 {ρ : Type} (nt : Nat) (X : Call') (n : Nat) (kN : Int → Int → Int → Option ρ) (x1 : Int → List AV × List AObj → Option ρ) (x0 : Int → Int → Option ρ) (a3 : List Row) (i15 : Int) (i16 : Int) (i17 : Int) : Option ρ :=
  (bif decide (i15 < (↑(List.length a3) : Int)) then (bif decide (0 ≤ i15) && decide (i15 < (↑(List.length a3) : Int)) then ((X 134 [AV.ptr 0 0 0 0, AV.agg [AV.int IntKind.u8 (AV.toI (nth AV.u (nth [] a3 (Int.toNat i15)) 0)), AV.int IntKind.i64 (AV.toI (nth AV.u (nth [] a3 (Int.toNat i15)) 1)), AV.str (AV.toS (nth AV.u (nth [] a3 (Int.toNat i15)) 2)), AV.ps (AV.toTg (nth AV.u (nth [] a3 (Int.toNat i15)) 3)) 34 (AV.toCp (nth AV.u (nth [] a3 (Int.toNat i15)) 3)) (AV.toR (nth AV.u (nth [] a3 (Int.toNat i15)) 3)), AV.int IntKind.i64 (AV.toI (nth AV.u (nth [] a3 (Int.toNat i15)) 4))]] [AObj.box 152 [AV.int IntKind.i64 i16, AV.int IntKind.i64 i17]]).bind fun r18 => (bif !AV.toB (nth AV.u (AV.toCells (nth AV.u (Prod.fst r18) 0)) 0) then x1 i15 r18 else kN (IntKind.wrap IntKind.i64 (i15 + 1)) (AV.toI (nth AV.u (AObj.toRow (nth AObj.dead (Prod.snd r18) 0)) 0)) (AV.toI (nth AV.u (AObj.toRow (nth AObj.dead (Prod.snd r18) 0)) 1)))) else none) else x0 i16 i17)
theorem f134_23_q {ρ : Type} (nt : Nat) (X : Call') (n : Nat) (kN : St → Option ρ) (kX : Nat → St → Option ρ) (kR : St → Option ρ) (a0 : Int) (a1 : Int) (a2 : List UInt8) (a3T : Nat) (a3C : Cp) (a3 : List Row) (a4 : Int) (i15 : Int) (i16 : Int) (i17 : Int) : stepL ⟨L, F, nt, X⟩ ⟨1, lookV V 134⟩ n (subc (bodyOf Try.f134) [1, 1, 1, 1, 0, 1, 0, 1, 1, 1, 1, 1, 1, 1, 1, 1, 0, 1, 1, 0, 1, 0, 0]) (look (lookV V 134) 23).xl kX kR (fun s => kN ((clean 1 3 (look (lookV V 134) 23) []) s)) (f134_23_S a0 a1 a2 a3T a3C a3 a4 i15 i16 i17) = f134_23 nt X n (fun i15 i16 i17 => kN (f134_23_S a0 a1 a2 a3T a3C a3 a4 i15 i16 i17)) (fun i15 r18 => kR (f134_23_X1 a0 a1 a2 a3T a3C a3 a4 i15 r18)) (fun i16 i17 => kX 1 (f134_23_X0 a0 a1 a2 a3T a3C a3 a4 i16 i17)) a3 i15 i16 i17 := by kernel_rfl
def f134_23_L {ρ : Type} (nt : Nat) (X : Call') (n : Nat) (x0 : Int → Int → Option ρ) (x1 : Int → List AV × List AObj → Option ρ) (a3 : List Row) : Nat → Int → Int → Int → Option ρ
  | 0, _, _, _ => none
  | m + 1, i15, i16, i17 => f134_23 nt X n (fun i15 i16 i17 => f134_23_L nt X n x0 x1 a3 m i15 i16 i17) x1 x0 a3 i15 i16 i17
theorem f134_23_e {ρ : Type} (nt : Nat) (X : Call') (n : Nat) (kX : Nat → St → Option ρ) (kR : St → Option ρ) (a0 : Int) (a1 : Int) (a2 : List UInt8) (a3T : Nat) (a3C : Cp) (a3 : List Row) (a4 : Int) (m : Nat) (i15 : Int) (i16 : Int) (i17 : Int) : loopN (stepL ⟨L, F, nt, X⟩ ⟨1, lookV V 134⟩ n (subc (bodyOf Try.f134) [1, 1, 1, 1, 0, 1, 0, 1, 1, 1, 1, 1, 1, 1, 1, 1, 0, 1, 1, 0, 1, 0, 0]) (look (lookV V 134) 23).xl kX kR) (clean 1 3 (look (lookV V 134) 23) []) m (f134_23_S a0 a1 a2 a3T a3C a3 a4 i15 i16 i17) = f134_23_L nt X n (fun i16 i17 => kX 1 (f134_23_X0 a0 a1 a2 a3T a3C a3 a4 i16 i17)) (fun i15 r18 => kR (f134_23_X1 a0 a1 a2 a3T a3C a3 a4 i15 r18)) a3 m i15 i16 i17 :=
  loopN_ind (α := Int × Int × Int) (fun w => ((fun i15 i16 i17 => (f134_23_S a0 a1 a2 a3T a3C a3 a4 i15 i16 i17))) w.1 w.2.1 w.2.2) (fun k w => ((fun i15 i16 i17 => f134_23 nt X n (fun i15 i16 i17 => k (i15, i16, i17)) (fun i15 r18 => kR (f134_23_X1 a0 a1 a2 a3T a3C a3 a4 i15 r18)) (fun i16 i17 => kX 1 (f134_23_X0 a0 a1 a2 a3T a3C a3 a4 i16 i17)) a3 i15 i16 i17)) w.1 w.2.1 w.2.2) (fun m w => ((fun i15 i16 i17 => f134_23_L nt X n (fun i16 i17 => kX 1 (f134_23_X0 a0 a1 a2 a3T a3C a3 a4 i16 i17)) (fun i15 r18 => kR (f134_23_X1 a0 a1 a2 a3T a3C a3 a4 i15 r18)) a3 m i15 i16 i17)) w.1 w.2.1 w.2.2) (fun _ => rfl) (fun _ _ => rfl) (fun kN w => ((fun i15 i16 i17 => f134_23_q nt X n kN kX kR a0 a1 a2 a3T a3C a3 a4 i15 i16 i17)) w.1 w.2.1 w.2.2) m (i15, i16, i17)
def f134_23_P0 (nt : Nat) (X : Call') (n : Nat) (a1 : Int) (a2 : List UInt8) (a4 : Int) (i16 : Int) (i17 : Int) : Option (List AV × List AObj) :=
  (bif decide (a1 = 0) then (bif decide (a2 = []) then (bif decide (a4 = 0) then some (([AV.bool true], [AObj.box 152 [AV.int IntKind.i64 i16, AV.int IntKind.i64 (IntKind.wrap IntKind.i64 (i17 + 1))]])) else some (([AV.bool false], [AObj.box 152 [AV.int IntKind.i64 i16, AV.int IntKind.i64 (IntKind.wrap IntKind.i64 (i17 + 1))]]))) else some (([AV.bool false], [AObj.box 152 [AV.int IntKind.i64 i16, AV.int IntKind.i64 (IntKind.wrap IntKind.i64 (i17 + 1))]]))) else some (([AV.bool false], [AObj.box 152 [AV.int IntKind.i64 i16, AV.int IntKind.i64 (IntKind.wrap IntKind.i64 (i17 + 1))]])))
theorem f134_23_P0_q (nt : Nat) (X : Call') (n : Nat) (a0 : Int) (a1 : Int) (a2 : List UInt8) (a3T : Nat) (a3C : Cp) (a3 : List Row) (a4 : Int) (left : Int) (nest : Int) (i16 : Int) (i17 : Int) : (kNf ⟨L, F, nt, X⟩ ⟨1, lookV V 134⟩ n (finish ⟨L, F, nt, X⟩ Try.f134 (sig F 134).res [AObj.box 152 [AV.int IntKind.i64 left, AV.int IntKind.i64 nest]]) (finish ⟨L, F, nt, X⟩ Try.f134 (sig F 134).res [AObj.box 152 [AV.int IntKind.i64 left, AV.int IntKind.i64 nest]]) (fun _ _ => none) [.block 1, .seq (subc (bodyOf Try.f134) [1, 1, 1, 1, 0, 1, 0, 1, 1, 1, 1, 1, 1, 1, 1, 1, 0, 1, 1, 1]), .block 0, .seq (subc (bodyOf Try.f134) [1, 1, 1, 1, 1])]).2 1 (f134_23_X0 a0 a1 a2 a3T a3C a3 a4 i16 i17) = f134_23_P0 nt X n a1 a2 a4 i16 i17 := by kernel_rfl
def f134_23_P1 (nt : Nat) (X : Call') (n : Nat) (r18 : List AV × List AObj) : Option (List AV × List AObj) :=
  some (([AV.bool false], [AObj.box 152 [AV.int IntKind.i64 (AV.toI (nth AV.u (AObj.toRow (nth AObj.dead (Prod.snd r18) 0)) 0)), AV.int IntKind.i64 (AV.toI (nth AV.u (AObj.toRow (nth AObj.dead (Prod.snd r18) 0)) 1))]]))
theorem f134_23_P1_q (nt : Nat) (X : Call') (n : Nat) (a0 : Int) (a1 : Int) (a2 : List UInt8) (a3T : Nat) (a3C : Cp) (a3 : List Row) (a4 : Int) (left : Int) (nest : Int) (i15 : Int) (r18 : List AV × List AObj) : (finish ⟨L, F, nt, X⟩ Try.f134 (sig F 134).res [AObj.box 152 [AV.int IntKind.i64 left, AV.int IntKind.i64 nest]]) (f134_23_X1 a0 a1 a2 a3T a3C a3 a4 i15 r18) = f134_23_P1 nt X n r18 := by kernel_rfl
def f134_J20 (nt : Nat) (X : Call') (n : Nat) (L0 : Int → Int → Int → Option (List AV × List AObj)) (left : Int) (nest : Int) (b13 : Bool) : Option (List AV × List AObj) :=
  (bif b13 then some (([AV.bool false], [AObj.box 152 [AV.int IntKind.i64 (IntKind.wrap IntKind.i64 (left - 1)), AV.int IntKind.i64 nest]])) else L0  (0) (IntKind.wrap IntKind.i64 (left - 1)) (IntKind.wrap IntKind.i64 (nest - 1)))
def f134_R (nt : Nat) (X : Call') (n : Nat) (L0 : Int → Int → Int → Option (List AV × List AObj)) (a0 : Int) (a1 : Int) (a2 : List UInt8) (a3 : List Row) (a4 : Int) (left : Int) (nest : Int) : Option (List AV × List AObj) :=
  (bif decide (left = 0) then some (([AV.bool false], [AObj.box 152 [AV.int IntKind.i64 left, AV.int IntKind.i64 nest]])) else (bif decide (a0 = 0) then (bif decide (a1 = 0) then (bif decide (a2 = []) then (bif decide (a4 = 0) then some (([AV.bool (decide ((↑(List.length a3) : Int) = 0))], [AObj.box 152 [AV.int IntKind.i64 (IntKind.wrap IntKind.i64 (left - 1)), AV.int IntKind.i64 nest]])) else some (([AV.bool false], [AObj.box 152 [AV.int IntKind.i64 (IntKind.wrap IntKind.i64 (left - 1)), AV.int IntKind.i64 nest]]))) else some (([AV.bool false], [AObj.box 152 [AV.int IntKind.i64 (IntKind.wrap IntKind.i64 (left - 1)), AV.int IntKind.i64 nest]]))) else some (([AV.bool false], [AObj.box 152 [AV.int IntKind.i64 (IntKind.wrap IntKind.i64 (left - 1)), AV.int IntKind.i64 nest]]))) else (bif decide (a0 = 1) then (bif decide (a2 = []) then (bif decide (a4 = 0) then some (([AV.bool (decide ((↑(List.length a3) : Int) = 0))], [AObj.box 152 [AV.int IntKind.i64 (IntKind.wrap IntKind.i64 (left - 1)), AV.int IntKind.i64 nest]])) else some (([AV.bool false], [AObj.box 152 [AV.int IntKind.i64 (IntKind.wrap IntKind.i64 (left - 1)), AV.int IntKind.i64 nest]]))) else some (([AV.bool false], [AObj.box 152 [AV.int IntKind.i64 (IntKind.wrap IntKind.i64 (left - 1)), AV.int IntKind.i64 nest]]))) else (bif decide (a0 = 2) then (bif decide (256 < (↑(List.length a2) : Int)) then some (([AV.bool false], [AObj.box 152 [AV.int IntKind.i64 (IntKind.wrap IntKind.i64 (left - 1)), AV.int IntKind.i64 nest]])) else (bif decide (a1 = 0) then (bif decide (a4 = 0) then some (([AV.bool (decide ((↑(List.length a3) : Int) = 0))], [AObj.box 152 [AV.int IntKind.i64 (IntKind.wrap IntKind.i64 (left - 1)), AV.int IntKind.i64 nest]])) else some (([AV.bool false], [AObj.box 152 [AV.int IntKind.i64 (IntKind.wrap IntKind.i64 (left - 1)), AV.int IntKind.i64 nest]]))) else some (([AV.bool false], [AObj.box 152 [AV.int IntKind.i64 (IntKind.wrap IntKind.i64 (left - 1)), AV.int IntKind.i64 nest]])))) else (bif decide (a0 = 4) then (bif decide (a4 < 1) then some (([AV.bool false], [AObj.box 152 [AV.int IntKind.i64 (IntKind.wrap IntKind.i64 (left - 1)), AV.int IntKind.i64 nest]])) else (bif decide (a1 = 0) then (bif decide (a2 = []) then some (([AV.bool (decide ((↑(List.length a3) : Int) = 0))], [AObj.box 152 [AV.int IntKind.i64 (IntKind.wrap IntKind.i64 (left - 1)), AV.int IntKind.i64 nest]])) else some (([AV.bool false], [AObj.box 152 [AV.int IntKind.i64 (IntKind.wrap IntKind.i64 (left - 1)), AV.int IntKind.i64 nest]]))) else some (([AV.bool false], [AObj.box 152 [AV.int IntKind.i64 (IntKind.wrap IntKind.i64 (left - 1)), AV.int IntKind.i64 nest]])))) else (bif decide (a0 = 3) then (bif decide (nest = 0) then f134_J20 nt X n L0 left nest (true) else f134_J20 nt X n L0 left nest (decide (IntKind.wrap IntKind.i64 (left - 1) < (↑(List.length a3) : Int)))) else some (([AV.bool false], [AObj.box 152 [AV.int IntKind.i64 (IntKind.wrap IntKind.i64 (left - 1)), AV.int IntKind.i64 nest]]))))))))
def f134 (nt : Nat) (X : Call') (n : Nat) (a0 : Int) (a1 : Int) (a2 : List UInt8) (a3 : List Row) (a4 : Int) (left : Int) (nest : Int) : Option (List AV × List AObj) :=
  f134_R nt X n (fun i15 i16 i17 => f134_23_L nt X n (fun i16 i17 => f134_23_P0 nt X n a1 a2 a4 i16 i17) (fun i15 r18 => f134_23_P1 nt X n r18) a3 n i15 i16 i17) a0 a1 a2 a3 a4 left nest
theorem f134_q (nt : Nat) (X : Call') (n : Nat) (a0 : Int) (a1 : Int) (a2 : List UInt8) (a3T : Nat) (a3C : Cp) (a3 : List Row) (a4 : Int) (left : Int) (nest : Int) : evBody ⟨L, F, nt, X⟩ (lookV V 134) n Try.f134 (sig F 134).res [AV.ptr 0 0 0 0, AV.agg [AV.int IntKind.u8 a0, AV.int IntKind.i64 a1, AV.str a2, AV.ps a3T 34 a3C a3, AV.int IntKind.i64 a4]] [AObj.box 152 [AV.int IntKind.i64 left, AV.int IntKind.i64 nest]] = f134 nt X n a0 a1 a2 a3 a4 left nest :=
  Eq.trans (b := f134_R nt X n (fun i15 i16 i17 => loopN (stepL ⟨L, F, nt, X⟩ ⟨1, lookV V 134⟩ n (subc (bodyOf Try.f134) [1, 1, 1, 1, 0, 1, 0, 1, 1, 1, 1, 1, 1, 1, 1, 1, 0, 1, 1, 0, 1, 0, 0]) (look (lookV V 134) 23).xl (kNf ⟨L, F, nt, X⟩ ⟨1, lookV V 134⟩ n (finish ⟨L, F, nt, X⟩ Try.f134 (sig F 134).res [AObj.box 152 [AV.int IntKind.i64 left, AV.int IntKind.i64 nest]]) (finish ⟨L, F, nt, X⟩ Try.f134 (sig F 134).res [AObj.box 152 [AV.int IntKind.i64 left, AV.int IntKind.i64 nest]]) (fun _ _ => none) [.block 1, .seq (subc (bodyOf Try.f134) [1, 1, 1, 1, 0, 1, 0, 1, 1, 1, 1, 1, 1, 1, 1, 1, 0, 1, 1, 1]), .block 0, .seq (subc (bodyOf Try.f134) [1, 1, 1, 1, 1])]).2 (finish ⟨L, F, nt, X⟩ Try.f134 (sig F 134).res [AObj.box 152 [AV.int IntKind.i64 left, AV.int IntKind.i64 nest]])) (clean 1 3 (look (lookV V 134) 23) []) n (f134_23_S a0 a1 a2 a3T a3C a3 a4 i15 i16 i17)) a0 a1 a2 a3 a4 left nest) (by kernel_rfl) (congrArg (fun q => q a0 a1 a2 a3 a4 left nest) (congrArg (f134_R nt X n ) (show (fun i15 i16 i17 => loopN (stepL ⟨L, F, nt, X⟩ ⟨1, lookV V 134⟩ n (subc (bodyOf Try.f134) [1, 1, 1, 1, 0, 1, 0, 1, 1, 1, 1, 1, 1, 1, 1, 1, 0, 1, 1, 0, 1, 0, 0]) (look (lookV V 134) 23).xl (kNf ⟨L, F, nt, X⟩ ⟨1, lookV V 134⟩ n (finish ⟨L, F, nt, X⟩ Try.f134 (sig F 134).res [AObj.box 152 [AV.int IntKind.i64 left, AV.int IntKind.i64 nest]]) (finish ⟨L, F, nt, X⟩ Try.f134 (sig F 134).res [AObj.box 152 [AV.int IntKind.i64 left, AV.int IntKind.i64 nest]]) (fun _ _ => none) [.block 1, .seq (subc (bodyOf Try.f134) [1, 1, 1, 1, 0, 1, 0, 1, 1, 1, 1, 1, 1, 1, 1, 1, 0, 1, 1, 1]), .block 0, .seq (subc (bodyOf Try.f134) [1, 1, 1, 1, 1])]).2 (finish ⟨L, F, nt, X⟩ Try.f134 (sig F 134).res [AObj.box 152 [AV.int IntKind.i64 left, AV.int IntKind.i64 nest]])) (clean 1 3 (look (lookV V 134) 23) []) n (f134_23_S a0 a1 a2 a3T a3C a3 a4 i15 i16 i17)) = _ from funext fun i15 => funext fun i16 => funext fun i17 => (f134_23_e nt X n (kNf ⟨L, F, nt, X⟩ ⟨1, lookV V 134⟩ n (finish ⟨L, F, nt, X⟩ Try.f134 (sig F 134).res [AObj.box 152 [AV.int IntKind.i64 left, AV.int IntKind.i64 nest]]) (finish ⟨L, F, nt, X⟩ Try.f134 (sig F 134).res [AObj.box 152 [AV.int IntKind.i64 left, AV.int IntKind.i64 nest]]) (fun _ _ => none) [.block 1, .seq (subc (bodyOf Try.f134) [1, 1, 1, 1, 0, 1, 0, 1, 1, 1, 1, 1, 1, 1, 1, 1, 0, 1, 1, 1]), .block 0, .seq (subc (bodyOf Try.f134) [1, 1, 1, 1, 1])]).2 (finish ⟨L, F, nt, X⟩ Try.f134 (sig F 134).res [AObj.box 152 [AV.int IntKind.i64 left, AV.int IntKind.i64 nest]]) a0 a1 a2 a3T a3C a3 a4 n i15 i16 i17).trans (congrArg (fun q => q a3 n i15 i16 i17) (congr (congrArg (f134_23_L nt X n) (show (fun i16 i17 => (kNf ⟨L, F, nt, X⟩ ⟨1, lookV V 134⟩ n (finish ⟨L, F, nt, X⟩ Try.f134 (sig F 134).res [AObj.box 152 [AV.int IntKind.i64 left, AV.int IntKind.i64 nest]]) (finish ⟨L, F, nt, X⟩ Try.f134 (sig F 134).res [AObj.box 152 [AV.int IntKind.i64 left, AV.int IntKind.i64 nest]]) (fun _ _ => none) [.block 1, .seq (subc (bodyOf Try.f134) [1, 1, 1, 1, 0, 1, 0, 1, 1, 1, 1, 1, 1, 1, 1, 1, 0, 1, 1, 1]), .block 0, .seq (subc (bodyOf Try.f134) [1, 1, 1, 1, 1])]).2 1 (f134_23_X0 a0 a1 a2 a3T a3C a3 a4 i16 i17)) = (fun i16 i17 => f134_23_P0 nt X n a1 a2 a4 i16 i17) from funext fun i16 => funext fun i17 => (f134_23_P0_q nt X n a0 a1 a2 a3T a3C a3 a4 left nest i16 i17))) (show (fun i15 r18 => (finish ⟨L, F, nt, X⟩ Try.f134 (sig F 134).res [AObj.box 152 [AV.int IntKind.i64 left, AV.int IntKind.i64 nest]]) (f134_23_X1 a0 a1 a2 a3T a3C a3 a4 i15 r18)) = (fun i15 r18 => f134_23_P1 nt X n r18) from funext fun i15 => funext fun r18 => (f134_23_P1_q nt X n a0 a1 a2 a3T a3C a3 a4 left nest i15 r18)))))))

def f108 (nt : Nat) (X : Call') (n : Nat) (a0 : Int) (a1 : Int) (a2 : List UInt8) (a3T : Nat) (a3C : Cp) (a3 : List Row) (a4 : Int) : Option (List AV × List AObj) :=
  ((X 134 [AV.ptr 0 0 0 0, AV.agg [AV.int IntKind.u8 a0, AV.int IntKind.i64 a1, AV.str a2, AV.ps a3T 34 a3C a3, AV.int IntKind.i64 a4]] [AObj.box 152 [AV.int IntKind.i64 512, AV.int IntKind.i64 16]]).bind fun r11 => (bif !AV.toB (nth AV.u (AV.toCells (nth AV.u (Prod.fst r11) 0)) 0) then some (([AV.int IntKind.i64 0], [])) else some (([AV.int IntKind.i64 (IntKind.wrap IntKind.i64 (512 - AV.toI (nth AV.u (AObj.toRow (nth AObj.dead (Prod.snd r11) 0)) 0)))], []))))
theorem f108_q (nt : Nat) (X : Call') (n : Nat) (a0 : Int) (a1 : Int) (a2 : List UInt8) (a3T : Nat) (a3C : Cp) (a3 : List Row) (a4 : Int) : evBody ⟨L, F, nt, X⟩ (lookV V 108) n Try.f108 (sig F 108).res [AV.agg [AV.int IntKind.u8 a0, AV.int IntKind.i64 a1, AV.str a2, AV.ps a3T 34 a3C a3, AV.int IntKind.i64 a4]] [] = f108 nt X n a0 a1 a2 a3T a3C a3 a4 := by kernel_rfl

def f64 (nt : Nat) (X : Call') (n : Nat) (a0 : Int) (a1 : Int) (a2 : List UInt8) (a3T : Nat) (a3C : Cp) (a3 : List Row) (a4 : Int) : Option (List AV × List AObj) :=
  ((X 108 [AV.agg [AV.int IntKind.u8 a0, AV.int IntKind.i64 a1, AV.str a2, AV.ps a3T 34 a3C a3, AV.int IntKind.i64 a4]] []).bind fun r11 => some (([AV.bool (decide (0 < AV.toI (nth AV.u (AV.toCells (nth AV.u (Prod.fst r11) 0)) 0)))], [])))
theorem f64_q (nt : Nat) (X : Call') (n : Nat) (a0 : Int) (a1 : Int) (a2 : List UInt8) (a3T : Nat) (a3C : Cp) (a3 : List Row) (a4 : Int) : evBody ⟨L, F, nt, X⟩ (lookV V 64) n Try.f64 (sig F 64).res [AV.agg [AV.int IntKind.u8 a0, AV.int IntKind.i64 a1, AV.str a2, AV.ps a3T 34 a3C a3, AV.int IntKind.i64 a4]] [] = f64 nt X n a0 a1 a2 a3T a3C a3 a4 := by kernel_rfl

def f107 (nt : Nat) (X : Call') (n : Nat) (a0 : Int) (a1 : Int) (a2 : List UInt8) (a3T : Nat) (a3C : Cp) (a3 : List Row) (a4 : Int) : Option (List AV × List AObj) :=
  ((X 108 [AV.agg [AV.int IntKind.u8 a0, AV.int IntKind.i64 a1, AV.str a2, AV.ps a3T 34 a3C a3, AV.int IntKind.i64 a4]] []).bind fun r11 => some (([AV.int IntKind.i64 (AV.toI (nth AV.u (AV.toCells (nth AV.u (Prod.fst r11) 0)) 0))], [])))
theorem f107_q (nt : Nat) (X : Call') (n : Nat) (a0 : Int) (a1 : Int) (a2 : List UInt8) (a3T : Nat) (a3C : Cp) (a3 : List Row) (a4 : Int) : evBody ⟨L, F, nt, X⟩ (lookV V 107) n Try.f107 (sig F 107).res [AV.agg [AV.int IntKind.u8 a0, AV.int IntKind.i64 a1, AV.str a2, AV.ps a3T 34 a3C a3, AV.int IntKind.i64 a4]] [] = f107 nt X n a0 a1 a2 a3T a3C a3 a4 := by kernel_rfl


def sp134 (m : Nat) : Sp
  | [.ptr 0 0 0 0, .agg [.int .u8 k, .int .i64 n, .str s, .ps _ 34 _ l, .int .i64 r]], [.box 152 [.int .i64 p, .int .i64 q]] =>
    bif Nat.blt (szR l) m then some ([.bool (takeV (.mk k n s (vlsOf l) r) p q).1], [.box 152 [.int .i64 (takeV (.mk k n s (vlsOf l) r) p q).2.1, .int .i64 (takeV (.mk k n s (vlsOf l) r) p q).2.2]]) else none
  | _, _ => none
theorem f134_loop {nt m n : Nat} {h134 : Facts nt 134 (sp134 m)} {l : List Row} (hm : m < huge) (hl : szR l < m + 1) (x0 : Int → Int → Option (List AV × List AObj)) : ∀ (fu j : Nat) (p q : Int), j ≤ l.length → l.length - j < fu →
    f134_23_L nt (tab [⟨134, sp134 m, h134⟩]) n x0 (fun i15 r18 => f134_23_P1 nt (tab [⟨134, sp134 m, h134⟩]) n r18) l fu j p q =
      bif (takeVs (vlsOf (l.drop j)) p q).1 then x0 (takeVs (vlsOf (l.drop j)) p q).2.1 (takeVs (vlsOf (l.drop j)) p q).2.2 else some ([.bool false], [.box 152 [.int .i64 (takeVs (vlsOf (l.drop j)) p q).2.1, .int .i64 (takeVs (vlsOf (l.drop j)) p q).2.2]])
  | 0, j, p, q, h1, h2 => by omega
  | fu + 1, j, p, q, h1, h2 => by
    have hlen : l.length ≤ szR l := szR_len l
    by_cases hk : j < l.length
    · have hmm := nth_mem (d := []) hk
      have hs := sz_mem hmm
      have s3 := sz_nth (nth [] l j) 3
      have h3 : decide ((j : Int) < (l.length : Int)) = true := by simp only [decide_eq_true_eq]; omega
      have h4 : decide ((0 : Int) ≤ (j : Int)) = true := by simp only [decide_eq_true_eq]; omega
      have hw := wrap_i64_nat (k := j) (by unfold huge at hm; omega)
      have hg : Nat.blt (szR (nth .u (nth [] l j) 3).toR) m = true := by rw [nblt]; omega
      have e : tab [⟨134, sp134 m, h134⟩] 134 [.ptr 0 0 0 0, .agg [.int .u8 (nth .u (nth [] l j) 0).toI, .int .i64 (nth .u (nth [] l j) 1).toI, .str (nth .u (nth [] l j) 2).toS, .ps (nth .u (nth [] l j) 3).toTg 34 (nth .u (nth [] l j) 3).toCp (nth .u (nth [] l j) 3).toR, .int .i64 (nth .u (nth [] l j) 4).toI]] [.box 152 [.int .i64 p, .int .i64 q]] = some ([.bool (takeV (vlOf (nth [] l j)) p q).1], [.box 152 [.int .i64 (takeV (vlOf (nth [] l j)) p q).2.1, .int .i64 (takeV (vlOf (nth [] l j)) p q).2.2]]) := by
        rw [tab_hit]; simp only [sp134, hg, cond_true, vlOf_eq]
      have ih := fun p q => f134_loop (nt := nt) (n := n) (h134 := h134) hm hl x0 fu (j + 1) p q (by omega) (by omega)
      rw [drop_nth hk]
      simp only [f134_23_L, f134_23, h3, h4, Bool.and_self, cond_true, Int.toNat_natCast, e, Option.bind_some, toI_int, toB_bool, toCells_bool, toRow_box, nth_zero, nth_1, nth_2, hw, vlsOf, List.map_cons, takeVs]
      rw [← vlsOf]
      generalize takeV (vlOf (nth [] l j)) p q = t
      obtain ⟨b, p', q'⟩ := t
      cases b
      · simp only [Bool.not_false, cond_true, cond_false, f134_23_P1, toI_int, toRow_box, nth_zero, nth_1]
      · simp only [Bool.not_true, cond_true, cond_false]
        exact ih p' q'
    · obtain rfl : j = l.length := by omega
      have h3 : decide (((l.length : Nat) : Int) < (l.length : Int)) = false := by simp
      simp only [f134_23_L, f134_23, h3, List.drop_length, vlsOf, List.map_nil, takeVs, cond_false, cond_true]
theorem told134_step {nt m : Nat} (hm : m < huge) (h134 : Facts nt 134 (sp134 m)) : Facts nt 134 (sp134 (m + 1)) := fun args h rs h' hv => by
  unfold sp134 at hv
  split at hv
  · rename_i k n s t c l r p q
    cases hb : Nat.blt (szR l) (m + 1)
    · rw [hb] at hv; cases hv
    · rw [hb] at hv
      rw [nblt] at hb
      refine fact_tab Try.func134 [⟨134, sp134 m, h134⟩] (l.length + 1) ?_
      have hl := f134_loop (nt := nt) (n := l.length + 1) (h134 := h134) hm hb (fun i16 i17 => f134_23_P0 nt (tab [⟨134, sp134 m, h134⟩]) (l.length + 1) n s r i16 i17) (l.length + 1) 0 (w64 (p - 1)) (w64 (q - 1)) (by omega) (by omega)
      rw [f134_q, ← hv]
      simp only [List.drop_zero, Int.natCast_zero, Int.ofNat_zero, w64_def] at hl
      simp only [f134, f134_R, f134_J20, takeV, vlsOf_len, cond_true, cond_false, w64_def, hl]
      simp only [f134_23_P0]
      generalize takeVs (vlsOf l) (IntKind.wrap .i64 (p - 1)) (IntKind.wrap .i64 (q - 1)) = u
      obtain ⟨ub, up, uq⟩ := u
      unfold vlBare vlMany
      generalize decide (IntKind.wrap .i64 (p - 1) < (l.length : Int)) = bm
      generalize decide (((l.length : Nat) : Int) = 0) = bl
      generalize decide (256 < (s.length : Int)) = b256
      generalize decide (r < 1) = br1
      generalize hn : decide (n = 0) = bn
      generalize hs : decide (s = []) = bs
      generalize hr : decide (r = 0) = br
      generalize decide (q = 0) = bq
      generalize hp0 : decide (p = 0) = bp
      generalize decide (k = 0) = k0
      generalize decide (k = 1) = k1
      generalize decide (k = 2) = k2
      generalize decide (k = 3) = k3
      generalize decide (k = 4) = k4
      cases bp
      · simp only [cond_false]
        cases k0
        · cases k1
          · cases k2
            · cases k4
              · cases k3
                · rfl
                · cases bq <;> cases bm <;> cases ub <;> cases bn <;> cases bs <;> cases br <;> rfl
              · cases br1 <;> cases bn <;> cases bs <;> cases bl <;> rfl
            · cases b256 <;> cases bn <;> cases br <;> cases bl <;> rfl
          · cases bs <;> cases br <;> cases bl <;> rfl
        · cases bn <;> cases bs <;> cases br <;> cases bl <;> rfl
      · rfl
  · cases hv
theorem told134 (nt : Nat) : ∀ m, m ≤ huge → Facts nt 134 (sp134 m)
  | 0, _ => fun args h rs h' hv => by
    unfold sp134 at hv
    split at hv
    · rw [show Nat.blt (szR _) 0 = false from by cases hq : Nat.blt (szR _) 0; rfl; rw [nblt] at hq; omega] at hv; cases hv
    · cases hv
  | m + 1, hm => told134_step (by omega) (told134 nt m (by omega))
def sp108 : Sp
  | [.agg [.int .u8 k, .int .i64 n, .str s, .ps _ 34 _ l, .int .i64 r]], [] => bif Nat.blt (szR l) huge then some ([.int .i64 (measure (.mk k n s (vlsOf l) r))], []) else none
  | _, _ => none
theorem told108 (nt : Nat) : Facts nt 108 sp108 := fun args h rs h' hv => by
  unfold sp108 at hv
  split at hv
  · rename_i k n s t c l r
    cases hb : Nat.blt (szR l) huge
    · rw [hb] at hv; cases hv
    · rw [hb] at hv
      refine fact_tab Try.func108 [⟨134, sp134 huge, told134 nt huge (Nat.le_refl _)⟩] 1 ?_
      have e : tab [⟨134, sp134 huge, told134 nt huge (Nat.le_refl _)⟩] 134 [.ptr 0 0 0 0, .agg [.int .u8 k, .int .i64 n, .str s, .ps t 34 c l, .int .i64 r]] [.box 152 [.int .i64 512, .int .i64 16]] = some ([.bool (takeV (.mk k n s (vlsOf l) r) 512 16).1], [.box 152 [.int .i64 (takeV (.mk k n s (vlsOf l) r) 512 16).2.1, .int .i64 (takeV (.mk k n s (vlsOf l) r) 512 16).2.2]]) := by
        rw [tab_hit]; simp only [sp134, hb, cond_true]
      rw [f108_q, ← hv]
      simp only [f108, e, Option.bind_some, toI_int, toB_bool, toCells_bool, toRow_box, nth_zero, nth_1, measure, cond_true, w64_def]
      cases (takeV (.mk k n s (vlsOf l) r) 512 16).1 <;> rfl
  · cases hv
def sp64 : Sp
  | [.agg [.int .u8 k, .int .i64 n, .str s, .ps _ 34 _ l, .int .i64 r]], [] => bif Nat.blt (szR l) huge then some ([.bool (mayV (.mk k n s (vlsOf l) r))], []) else none
  | _, _ => none
theorem told64 (nt : Nat) : Facts nt 64 sp64 := fun args h rs h' hv => by
  unfold sp64 at hv
  split at hv
  · rename_i k n s t c l r
    cases hb : Nat.blt (szR l) huge
    · rw [hb] at hv; cases hv
    · rw [hb] at hv
      refine fact_tab Try.func64 [⟨108, sp108, told108 nt⟩] 1 ?_
      have e : tab [⟨108, sp108, told108 nt⟩] 108 [.agg [.int .u8 k, .int .i64 n, .str s, .ps t 34 c l, .int .i64 r]] [] = some ([.int .i64 (measure (.mk k n s (vlsOf l) r))], []) := by
        rw [tab_hit]; simp only [sp108, hb, cond_true]
      rw [f64_q, ← hv]
      unfold f64
      rw [e]
      rfl
  · cases hv
def sp107 : Sp
  | [.agg [.int .u8 k, .int .i64 n, .str s, .ps _ 34 _ l, .int .i64 r]], [] => bif Nat.blt (szR l) huge then some ([.int .i64 (measure (.mk k n s (vlsOf l) r))], []) else none
  | _, _ => none
theorem told107 (nt : Nat) : Facts nt 107 sp107 := fun args h rs h' hv => by
  unfold sp107 at hv
  split at hv
  · rename_i k n s t c l r
    cases hb : Nat.blt (szR l) huge
    · rw [hb] at hv; cases hv
    · rw [hb] at hv
      refine fact_tab Try.func107 [⟨108, sp108, told108 nt⟩] 1 ?_
      have e : tab [⟨108, sp108, told108 nt⟩] 108 [.agg [.int .u8 k, .int .i64 n, .str s, .ps t 34 c l, .int .i64 r]] [] = some ([.int .i64 (measure (.mk k n s (vlsOf l) r))], []) := by
        rw [tab_hit]; simp only [sp108, hb, cond_true]
      rw [f107_q, ← hv]
      unfold f107
      rw [e]
      rfl
  · cases hv
end Go.Ev.T
