/- Functions 82, 83, 84, 81 (abilities joined; names in an expression; what Uses does at each statement), decompiled, and what they come to. -/
import Derived.Test.YtljiamlnpmhpmaaFlat
import Derived.Test.YtljiamlnpmhpmaaAid74
set_option linter.unusedVariables false
set_option linter.unusedSimpArgs false
noncomputable section
namespace Go.Ev
def join1 (o a : Int) : Int := bitsOf .or .u8 o (bitsOf .and .u8 a 63)
def joinR (l : List Row) (o : Int) : Int := l.foldl (fun o r => join1 o (nth .u r 0).toI) o
mutual
/-- is there a name in an expression? -/
def named : Ex → Bool
  | .mk k n s l => decide (k = 4) || namedL l
def namedL : List Ex → Bool
  | [] => false
  | e :: es => named e || namedL es
end
/-- Uses, at a statement -/
def us : Sm → Int × Bool × Bool → Int × Bool × Bool
  | .mk op nm sec ab wh a b t e c ws, u => bif decide (op = 2) then (join1 (join1 0 u.1) ab, u.2.1, u.2.2) else bif decide (op = 9) then (join1 (join1 0 u.1) 1, u.2.1, u.2.2) else bif decide (op = 3) then (u.1, true, u.2.2) else bif decide (op = 7) then (u.1, u.2.1, u.2.2 || named a) else u
def usF (k deep : Int) (s : Sm) (u : Int × Bool × Bool) : Bool × (Int × Bool × Bool) := (true, us s u)
end Go.Ev
namespace Go.Ev.T
open Go Go.Ev Go.Proofs
def f82_3_S (aT : Nat) (aC : Cp) (a : List Row) (i7 : Int) (i8 : Int) : St := St.mk [AV.u, AV.u, AV.u, AV.int IntKind.u8 i7, AV.u, AV.u, AV.ps aT 49 aC a, AV.int IntKind.i64 (↑(List.length a) : Int), AV.int IntKind.i64 i8, AV.u, AV.u, AV.u, AV.u, AV.u, AV.u, AV.u, AV.u, AV.u] []
def f82_3_X0 (i7 : Int) : St := St.mk [AV.u, AV.u, AV.u, AV.int IntKind.u8 i7, AV.u, AV.u, AV.u, AV.u, AV.u, AV.u, AV.u, AV.u, AV.u, AV.u, AV.u, AV.u, AV.u, AV.u] []
def f82_3 {ρ : Type} (nt : Nat) (X : Call') (n : Nat) (kN : Int → Int → Option ρ) (x0 : Int → Option ρ) (a : List Row) (i7 : Int) (i8 : Int) : Option ρ :=
  (bif decide (i8 < (↑(List.length a) : Int)) then (bif decide (0 ≤ i8) && decide (i8 < (↑(List.length a) : Int)) then kN (bitsOf BinOp.or IntKind.u8 i7 (bitsOf BinOp.and IntKind.u8 (AV.toI (nth AV.u (nth [] a (Int.toNat i8)) 0)) 63)) (IntKind.wrap IntKind.i64 (i8 + 1)) else none) else x0 i7)
theorem f82_3_q {ρ : Type} (nt : Nat) (X : Call') (n : Nat) (kN : St → Option ρ) (kX : Nat → St → Option ρ) (kR : St → Option ρ) (aT : Nat) (aC : Cp) (a : List Row) (i7 : Int) (i8 : Int) : stepL ⟨L, F, nt, X⟩ ⟨0, lookV V 82⟩ n (subc (bodyOf Try.f82) [1, 1, 0, 1, 0, 0]) (look (lookV V 82) 3).xl kX kR (fun s => kN ((clean 0 0 (look (lookV V 82) 3) []) s)) (f82_3_S aT aC a i7 i8) = f82_3 nt X n (fun i7 i8 => kN (f82_3_S aT aC a i7 i8)) (fun i7 => kX 0 (f82_3_X0 i7)) a i7 i8 := by kernel_rfl
def f82_3_L {ρ : Type} (nt : Nat) (X : Call') (n : Nat) (x0 : Int → Option ρ) (a : List Row) : Nat → Int → Int → Option ρ
  | 0, _, _ => none
  | m + 1, i7, i8 => f82_3 nt X n (fun i7 i8 => f82_3_L nt X n x0 a m i7 i8) x0 a i7 i8
theorem f82_3_e {ρ : Type} (nt : Nat) (X : Call') (n : Nat) (kX : Nat → St → Option ρ) (kR : St → Option ρ) (aT : Nat) (aC : Cp) (a : List Row) (m : Nat) (i7 : Int) (i8 : Int) : loopN (stepL ⟨L, F, nt, X⟩ ⟨0, lookV V 82⟩ n (subc (bodyOf Try.f82) [1, 1, 0, 1, 0, 0]) (look (lookV V 82) 3).xl kX kR) (clean 0 0 (look (lookV V 82) 3) []) m (f82_3_S aT aC a i7 i8) = f82_3_L nt X n (fun i7 => kX 0 (f82_3_X0 i7)) a m i7 i8 :=
  loopN_ind (α := Int × Int) (fun w => ((fun i7 i8 => (f82_3_S aT aC a i7 i8))) w.1 w.2) (fun k w => ((fun i7 i8 => f82_3 nt X n (fun i7 i8 => k (i7, i8)) (fun i7 => kX 0 (f82_3_X0 i7)) a i7 i8)) w.1 w.2) (fun m w => ((fun i7 i8 => f82_3_L nt X n (fun i7 => kX 0 (f82_3_X0 i7)) a m i7 i8)) w.1 w.2) (fun _ => rfl) (fun _ _ => rfl) (fun kN w => ((fun i7 i8 => f82_3_q nt X n kN kX kR aT aC a i7 i8)) w.1 w.2) m (i7, i8)
def f82_3_P0 (nt : Nat) (X : Call') (n : Nat) (i7 : Int) : Option (List AV × List AObj) :=
  some (([AV.int IntKind.u8 i7], []))
theorem f82_3_P0_q (nt : Nat) (X : Call') (n : Nat) (i7 : Int) : (kNf ⟨L, F, nt, X⟩ ⟨0, lookV V 82⟩ n (finish ⟨L, F, nt, X⟩ Try.f82 (sig F 82).res []) (finish ⟨L, F, nt, X⟩ Try.f82 (sig F 82).res []) (fun _ _ => none) [.block 0, .seq (subc (bodyOf Try.f82) [1, 1, 1])]).2 0 (f82_3_X0 i7) = f82_3_P0 nt X n i7 := by kernel_rfl
def f82_R (nt : Nat) (X : Call') (n : Nat) (L0 : Int → Int → Option (List AV × List AObj))  : Option (List AV × List AObj) :=
  L0  (0) (0)
def f82 (nt : Nat) (X : Call') (n : Nat) (a : List Row) : Option (List AV × List AObj) :=
  f82_R nt X n (fun i7 i8 => f82_3_L nt X n (fun i7 => f82_3_P0 nt X n i7) a n i7 i8) 
theorem f82_q (nt : Nat) (X : Call') (n : Nat) (aT : Nat) (aC : Cp) (a : List Row) : evBody ⟨L, F, nt, X⟩ (lookV V 82) n Try.f82 (sig F 82).res [AV.ps aT 49 aC a] [] = f82 nt X n a :=
  Eq.trans (b := f82_R nt X n (fun i7 i8 => loopN (stepL ⟨L, F, nt, X⟩ ⟨0, lookV V 82⟩ n (subc (bodyOf Try.f82) [1, 1, 0, 1, 0, 0]) (look (lookV V 82) 3).xl (kNf ⟨L, F, nt, X⟩ ⟨0, lookV V 82⟩ n (finish ⟨L, F, nt, X⟩ Try.f82 (sig F 82).res []) (finish ⟨L, F, nt, X⟩ Try.f82 (sig F 82).res []) (fun _ _ => none) [.block 0, .seq (subc (bodyOf Try.f82) [1, 1, 1])]).2 (finish ⟨L, F, nt, X⟩ Try.f82 (sig F 82).res [])) (clean 0 0 (look (lookV V 82) 3) []) n (f82_3_S aT aC a i7 i8)) ) (by kernel_rfl) (congrArg (fun q => q ) (congrArg (f82_R nt X n ) (show (fun i7 i8 => loopN (stepL ⟨L, F, nt, X⟩ ⟨0, lookV V 82⟩ n (subc (bodyOf Try.f82) [1, 1, 0, 1, 0, 0]) (look (lookV V 82) 3).xl (kNf ⟨L, F, nt, X⟩ ⟨0, lookV V 82⟩ n (finish ⟨L, F, nt, X⟩ Try.f82 (sig F 82).res []) (finish ⟨L, F, nt, X⟩ Try.f82 (sig F 82).res []) (fun _ _ => none) [.block 0, .seq (subc (bodyOf Try.f82) [1, 1, 1])]).2 (finish ⟨L, F, nt, X⟩ Try.f82 (sig F 82).res [])) (clean 0 0 (look (lookV V 82) 3) []) n (f82_3_S aT aC a i7 i8)) = _ from funext fun i7 => funext fun i8 => (f82_3_e nt X n (kNf ⟨L, F, nt, X⟩ ⟨0, lookV V 82⟩ n (finish ⟨L, F, nt, X⟩ Try.f82 (sig F 82).res []) (finish ⟨L, F, nt, X⟩ Try.f82 (sig F 82).res []) (fun _ _ => none) [.block 0, .seq (subc (bodyOf Try.f82) [1, 1, 1])]).2 (finish ⟨L, F, nt, X⟩ Try.f82 (sig F 82).res []) aT aC a n i7 i8).trans (congrArg (fun q => q a n i7 i8) (congrArg (f82_3_L nt X n) (show (fun i7 => (kNf ⟨L, F, nt, X⟩ ⟨0, lookV V 82⟩ n (finish ⟨L, F, nt, X⟩ Try.f82 (sig F 82).res []) (finish ⟨L, F, nt, X⟩ Try.f82 (sig F 82).res []) (fun _ _ => none) [.block 0, .seq (subc (bodyOf Try.f82) [1, 1, 1])]).2 0 (f82_3_X0 i7)) = (fun i7 => f82_3_P0 nt X n i7) from funext fun i7 => (f82_3_P0_q nt X n i7)))))))
def f83u_4_S (a0 : Int) (a1 : Int) (a2 : List UInt8) (a3T : Nat) (a3C : Cp) (a3 : List Row) (i18 : Int) (i19 : Int) (b20 : Bool) (b21 : Bool) : St := St.mk [AV.u, AV.func (some 84) [AV.ptr 0 0 0 0], AV.u, AV.u, AV.u, AV.u, AV.u, AV.u, AV.u, AV.u, AV.u, AV.u, AV.u, AV.u, AV.ps a3T 26 a3C a3, AV.int IntKind.i64 (↑(List.length a3) : Int), AV.int IntKind.i64 i18, AV.u, AV.u, AV.u, AV.u, AV.u, AV.u, AV.u] [AObj.box 51 [AV.int IntKind.u8 i19, AV.bool b20, AV.bool b21], AObj.box 26 [AV.int IntKind.u8 a0, AV.int IntKind.i64 a1, AV.str a2, AV.ps a3T 26 a3C a3]]
def f83u_4_X0 (a0 : Int) (a1 : Int) (a2 : List UInt8) (a3T : Nat) (a3C : Cp) (a3 : List Row) (i19 : Int) (b20 : Bool) (b21 : Bool) : St := St.mk [AV.u, AV.u, AV.u, AV.u, AV.u, AV.u, AV.u, AV.u, AV.u, AV.u, AV.u, AV.u, AV.u, AV.u, AV.u, AV.u, AV.u, AV.u, AV.u, AV.u, AV.u, AV.u, AV.u, AV.u] [AObj.box 51 [AV.int IntKind.u8 i19, AV.bool b20, AV.bool b21], AObj.box 26 [AV.int IntKind.u8 a0, AV.int IntKind.i64 a1, AV.str a2, AV.ps a3T 26 a3C a3]]
def f83u_4 {ρ : Type} (nt : Nat) (X : Call') (n : Nat) (kN : Int → Int → Bool → Bool → Option ρ) (x0 : Int → Bool → Bool → Option ρ) (a3 : List Row) (i18 : Int) (i19 : Int) (b20 : Bool) (b21 : Bool) : Option ρ :=
  (bif decide (i18 < (↑(List.length a3) : Int)) then (bif decide (0 ≤ i18) && decide (i18 < (↑(List.length a3) : Int)) then ((X 83 [AV.agg [AV.int IntKind.u8 (AV.toI (nth AV.u (nth [] a3 (Int.toNat i18)) 0)), AV.int IntKind.i64 (AV.toI (nth AV.u (nth [] a3 (Int.toNat i18)) 1)), AV.str (AV.toS (nth AV.u (nth [] a3 (Int.toNat i18)) 2)), AV.ps (AV.toTg (nth AV.u (nth [] a3 (Int.toNat i18)) 3)) 26 (AV.toCp (nth AV.u (nth [] a3 (Int.toNat i18)) 3)) (AV.toR (nth AV.u (nth [] a3 (Int.toNat i18)) 3))], AV.func (some 84) [AV.ptr 0 0 0 0]] [AObj.box 51 [AV.int IntKind.u8 i19, AV.bool b20, AV.bool b21]]).bind fun r22 => kN (IntKind.wrap IntKind.i64 (i18 + 1)) (AV.toI (nth AV.u (AObj.toRow (nth AObj.dead (Prod.snd r22) 0)) 0)) (AV.toB (nth AV.u (AObj.toRow (nth AObj.dead (Prod.snd r22) 0)) 1)) (AV.toB (nth AV.u (AObj.toRow (nth AObj.dead (Prod.snd r22) 0)) 2))) else none) else x0 i19 b20 b21)
theorem f83u_4_q {ρ : Type} (nt : Nat) (X : Call') (n : Nat) (kN : St → Option ρ) (kX : Nat → St → Option ρ) (kR : St → Option ρ) (a0 : Int) (a1 : Int) (a2 : List UInt8) (a3T : Nat) (a3C : Cp) (a3 : List Row) (i18 : Int) (i19 : Int) (b20 : Bool) (b21 : Bool) : stepL ⟨L, F, nt, X⟩ ⟨1, lookV V 83⟩ n (subc (bodyOf Try.f83) [1, 1, 1, 0, 0]) (look (lookV V 83) 4).xl kX kR (fun s => kN ((clean 1 2 (look (lookV V 83) 4) []) s)) (f83u_4_S a0 a1 a2 a3T a3C a3 i18 i19 b20 b21) = f83u_4 nt X n (fun i18 i19 b20 b21 => kN (f83u_4_S a0 a1 a2 a3T a3C a3 i18 i19 b20 b21)) (fun i19 b20 b21 => kX 0 (f83u_4_X0 a0 a1 a2 a3T a3C a3 i19 b20 b21)) a3 i18 i19 b20 b21 := by kernel_rfl
def f83u_4_L {ρ : Type} (nt : Nat) (X : Call') (n : Nat) (x0 : Int → Bool → Bool → Option ρ) (a3 : List Row) : Nat → Int → Int → Bool → Bool → Option ρ
  | 0, _, _, _, _ => none
  | m + 1, i18, i19, b20, b21 => f83u_4 nt X n (fun i18 i19 b20 b21 => f83u_4_L nt X n x0 a3 m i18 i19 b20 b21) x0 a3 i18 i19 b20 b21
theorem f83u_4_e {ρ : Type} (nt : Nat) (X : Call') (n : Nat) (kX : Nat → St → Option ρ) (kR : St → Option ρ) (a0 : Int) (a1 : Int) (a2 : List UInt8) (a3T : Nat) (a3C : Cp) (a3 : List Row) (m : Nat) (i18 : Int) (i19 : Int) (b20 : Bool) (b21 : Bool) : loopN (stepL ⟨L, F, nt, X⟩ ⟨1, lookV V 83⟩ n (subc (bodyOf Try.f83) [1, 1, 1, 0, 0]) (look (lookV V 83) 4).xl kX kR) (clean 1 2 (look (lookV V 83) 4) []) m (f83u_4_S a0 a1 a2 a3T a3C a3 i18 i19 b20 b21) = f83u_4_L nt X n (fun i19 b20 b21 => kX 0 (f83u_4_X0 a0 a1 a2 a3T a3C a3 i19 b20 b21)) a3 m i18 i19 b20 b21 :=
  loopN_ind (α := Int × Int × Bool × Bool) (fun w => ((fun i18 i19 b20 b21 => (f83u_4_S a0 a1 a2 a3T a3C a3 i18 i19 b20 b21))) w.1 w.2.1 w.2.2.1 w.2.2.2) (fun k w => ((fun i18 i19 b20 b21 => f83u_4 nt X n (fun i18 i19 b20 b21 => k (i18, i19, b20, b21)) (fun i19 b20 b21 => kX 0 (f83u_4_X0 a0 a1 a2 a3T a3C a3 i19 b20 b21)) a3 i18 i19 b20 b21)) w.1 w.2.1 w.2.2.1 w.2.2.2) (fun m w => ((fun i18 i19 b20 b21 => f83u_4_L nt X n (fun i19 b20 b21 => kX 0 (f83u_4_X0 a0 a1 a2 a3T a3C a3 i19 b20 b21)) a3 m i18 i19 b20 b21)) w.1 w.2.1 w.2.2.1 w.2.2.2) (fun _ => rfl) (fun _ _ => rfl) (fun kN w => ((fun i18 i19 b20 b21 => f83u_4_q nt X n kN kX kR a0 a1 a2 a3T a3C a3 i18 i19 b20 b21)) w.1 w.2.1 w.2.2.1 w.2.2.2) m (i18, i19, b20, b21)
def f83u_4_P0 (nt : Nat) (X : Call') (n : Nat) (i19 : Int) (b20 : Bool) (b21 : Bool) : Option (List AV × List AObj) :=
  some (([], [AObj.box 51 [AV.int IntKind.u8 i19, AV.bool b20, AV.bool b21]]))
theorem f83u_4_P0_q (nt : Nat) (X : Call') (n : Nat) (a0 : Int) (a1 : Int) (a2 : List UInt8) (a3T : Nat) (a3C : Cp) (a3 : List Row) (u0 : Int) (u1 : Bool) (u2 : Bool) (i19 : Int) (b20 : Bool) (b21 : Bool) : (kNf ⟨L, F, nt, X⟩ ⟨1, lookV V 83⟩ n (finish ⟨L, F, nt, X⟩ Try.f83 (sig F 83).res [AObj.box 51 [AV.int IntKind.u8 u0, AV.bool u1, AV.bool u2]]) (finish ⟨L, F, nt, X⟩ Try.f83 (sig F 83).res [AObj.box 51 [AV.int IntKind.u8 u0, AV.bool u1, AV.bool u2]]) (fun _ _ => none) [.block 0]).2 0 (f83u_4_X0 a0 a1 a2 a3T a3C a3 i19 b20 b21) = f83u_4_P0 nt X n i19 b20 b21 := by kernel_rfl
def f83u_J4 (nt : Nat) (X : Call') (n : Nat) (L0 : Int → Int → Bool → Bool → Option (List AV × List AObj))  (i14 : Int) (b15 : Bool) (b16 : Bool) : Option (List AV × List AObj) :=
  L0  (0) (i14) (b15) (b16)
def f83u_R (nt : Nat) (X : Call') (n : Nat) (L0 : Int → Int → Bool → Bool → Option (List AV × List AObj)) (a0 : Int) (a2 : List UInt8) (u0 : Int) (u1 : Bool) (u2 : Bool) : Option (List AV × List AObj) :=
  (bif decide (a0 = 4) then ((X 84 [AV.str a2, AV.ptr 0 0 0 0] [AObj.box 51 [AV.int IntKind.u8 u0, AV.bool u1, AV.bool u2]]).bind fun r13 => f83u_J4 nt X n L0  (AV.toI (nth AV.u (AObj.toRow (nth AObj.dead (Prod.snd r13) 0)) 0)) (AV.toB (nth AV.u (AObj.toRow (nth AObj.dead (Prod.snd r13) 0)) 1)) (AV.toB (nth AV.u (AObj.toRow (nth AObj.dead (Prod.snd r13) 0)) 2))) else f83u_J4 nt X n L0  (u0) (u1) (u2))
def f83u (nt : Nat) (X : Call') (n : Nat) (a0 : Int) (a2 : List UInt8) (a3 : List Row) (u0 : Int) (u1 : Bool) (u2 : Bool) : Option (List AV × List AObj) :=
  f83u_R nt X n (fun i18 i19 b20 b21 => f83u_4_L nt X n (fun i19 b20 b21 => f83u_4_P0 nt X n i19 b20 b21) a3 n i18 i19 b20 b21) a0 a2 u0 u1 u2
theorem f83u_q (nt : Nat) (X : Call') (n : Nat) (a0 : Int) (a1 : Int) (a2 : List UInt8) (a3T : Nat) (a3C : Cp) (a3 : List Row) (u0 : Int) (u1 : Bool) (u2 : Bool) : evBody ⟨L, F, nt, X⟩ (lookV V 83) n Try.f83 (sig F 83).res [AV.agg [AV.int IntKind.u8 a0, AV.int IntKind.i64 a1, AV.str a2, AV.ps a3T 26 a3C a3], AV.func (some 84) [AV.ptr 0 0 0 0]] [AObj.box 51 [AV.int IntKind.u8 u0, AV.bool u1, AV.bool u2]] = f83u nt X n a0 a2 a3 u0 u1 u2 :=
  Eq.trans (b := f83u_R nt X n (fun i18 i19 b20 b21 => loopN (stepL ⟨L, F, nt, X⟩ ⟨1, lookV V 83⟩ n (subc (bodyOf Try.f83) [1, 1, 1, 0, 0]) (look (lookV V 83) 4).xl (kNf ⟨L, F, nt, X⟩ ⟨1, lookV V 83⟩ n (finish ⟨L, F, nt, X⟩ Try.f83 (sig F 83).res [AObj.box 51 [AV.int IntKind.u8 u0, AV.bool u1, AV.bool u2]]) (finish ⟨L, F, nt, X⟩ Try.f83 (sig F 83).res [AObj.box 51 [AV.int IntKind.u8 u0, AV.bool u1, AV.bool u2]]) (fun _ _ => none) [.block 0]).2 (finish ⟨L, F, nt, X⟩ Try.f83 (sig F 83).res [AObj.box 51 [AV.int IntKind.u8 u0, AV.bool u1, AV.bool u2]])) (clean 1 2 (look (lookV V 83) 4) []) n (f83u_4_S a0 a1 a2 a3T a3C a3 i18 i19 b20 b21)) a0 a2 u0 u1 u2) (by kernel_rfl) (congrArg (fun q => q a0 a2 u0 u1 u2) (congrArg (f83u_R nt X n ) (show (fun i18 i19 b20 b21 => loopN (stepL ⟨L, F, nt, X⟩ ⟨1, lookV V 83⟩ n (subc (bodyOf Try.f83) [1, 1, 1, 0, 0]) (look (lookV V 83) 4).xl (kNf ⟨L, F, nt, X⟩ ⟨1, lookV V 83⟩ n (finish ⟨L, F, nt, X⟩ Try.f83 (sig F 83).res [AObj.box 51 [AV.int IntKind.u8 u0, AV.bool u1, AV.bool u2]]) (finish ⟨L, F, nt, X⟩ Try.f83 (sig F 83).res [AObj.box 51 [AV.int IntKind.u8 u0, AV.bool u1, AV.bool u2]]) (fun _ _ => none) [.block 0]).2 (finish ⟨L, F, nt, X⟩ Try.f83 (sig F 83).res [AObj.box 51 [AV.int IntKind.u8 u0, AV.bool u1, AV.bool u2]])) (clean 1 2 (look (lookV V 83) 4) []) n (f83u_4_S a0 a1 a2 a3T a3C a3 i18 i19 b20 b21)) = _ from funext fun i18 => funext fun i19 => funext fun b20 => funext fun b21 => (f83u_4_e nt X n (kNf ⟨L, F, nt, X⟩ ⟨1, lookV V 83⟩ n (finish ⟨L, F, nt, X⟩ Try.f83 (sig F 83).res [AObj.box 51 [AV.int IntKind.u8 u0, AV.bool u1, AV.bool u2]]) (finish ⟨L, F, nt, X⟩ Try.f83 (sig F 83).res [AObj.box 51 [AV.int IntKind.u8 u0, AV.bool u1, AV.bool u2]]) (fun _ _ => none) [.block 0]).2 (finish ⟨L, F, nt, X⟩ Try.f83 (sig F 83).res [AObj.box 51 [AV.int IntKind.u8 u0, AV.bool u1, AV.bool u2]]) a0 a1 a2 a3T a3C a3 n i18 i19 b20 b21).trans (congrArg (fun q => q a3 n i18 i19 b20 b21) (congrArg (f83u_4_L nt X n) (show (fun i19 b20 b21 => (kNf ⟨L, F, nt, X⟩ ⟨1, lookV V 83⟩ n (finish ⟨L, F, nt, X⟩ Try.f83 (sig F 83).res [AObj.box 51 [AV.int IntKind.u8 u0, AV.bool u1, AV.bool u2]]) (finish ⟨L, F, nt, X⟩ Try.f83 (sig F 83).res [AObj.box 51 [AV.int IntKind.u8 u0, AV.bool u1, AV.bool u2]]) (fun _ _ => none) [.block 0]).2 0 (f83u_4_X0 a0 a1 a2 a3T a3C a3 i19 b20 b21)) = (fun i19 b20 b21 => f83u_4_P0 nt X n i19 b20 b21) from funext fun i19 => funext fun b20 => funext fun b21 => (f83u_4_P0_q nt X n a0 a1 a2 a3T a3C a3 u0 u1 u2 i19 b20 b21)))))))
def f84 (nt : Nat) (X : Call') (n : Nat) (u0 : Int) (u1 : Bool) : Option (List AV × List AObj) :=
  some (([], [AObj.box 51 [AV.int IntKind.u8 u0, AV.bool u1, AV.bool true]]))
theorem f84_q (nt : Nat) (X : Call') (n : Nat) (a : List UInt8) (u0 : Int) (u1 : Bool) (u2 : Bool) : evBody ⟨L, F, nt, X⟩ (lookV V 84) n Try.f84 (sig F 84).res [AV.str a, AV.ptr 0 0 0 0] [AObj.box 51 [AV.int IntKind.u8 u0, AV.bool u1, AV.bool u2]] = f84 nt X n u0 u1 := by kernel_rfl
def f81 (nt : Nat) (X : Call') (n : Nat) (a0 : Int) (a3 : Int) (a5 : Int) (a6 : Int) (a7 : List UInt8) (a8T : Nat) (a8C : Cp) (a8 : List Row) (u0 : Int) (u1 : Bool) (u2 : Bool) : Option (List AV × List AObj) :=
  (bif decide (a0 = 2) then ((X 82 [AV.ps nt 49 (Cp.mk false false) [[AV.int IntKind.u8 u0], [AV.int IntKind.u8 a3]]] []).bind fun r38 => some (([AV.bool true], [AObj.box 51 [AV.int IntKind.u8 (AV.toI (nth AV.u (AV.toCells (nth AV.u (Prod.fst r38) 0)) 0)), AV.bool u1, AV.bool u2]]))) else (bif decide (a0 = 9) then ((X 82 [AV.ps nt 49 (Cp.mk false false) [[AV.int IntKind.u8 u0], [AV.int IntKind.u8 1]]] []).bind fun r39 => some (([AV.bool true], [AObj.box 51 [AV.int IntKind.u8 (AV.toI (nth AV.u (AV.toCells (nth AV.u (Prod.fst r39) 0)) 0)), AV.bool u1, AV.bool u2]]))) else (bif decide (a0 = 3) then some (([AV.bool true], [AObj.box 51 [AV.int IntKind.u8 u0, AV.bool true, AV.bool u2]])) else (bif decide (a0 = 7) then ((X 83 [AV.agg [AV.int IntKind.u8 a5, AV.int IntKind.i64 a6, AV.str a7, AV.ps a8T 26 a8C a8], AV.func (some 84) [AV.ptr 0 0 0 0]] [AObj.box 51 [AV.int IntKind.u8 u0, AV.bool u1, AV.bool u2]]).bind fun r40 => some (([AV.bool true], [AObj.box 51 [AV.int IntKind.u8 (AV.toI (nth AV.u (AObj.toRow (nth AObj.dead (Prod.snd r40) 0)) 0)), AV.bool (AV.toB (nth AV.u (AObj.toRow (nth AObj.dead (Prod.snd r40) 0)) 1)), AV.bool (AV.toB (nth AV.u (AObj.toRow (nth AObj.dead (Prod.snd r40) 0)) 2))]]))) else some (([AV.bool true], [AObj.box 51 [AV.int IntKind.u8 u0, AV.bool u1, AV.bool u2]]))))))
theorem f81_q (nt : Nat) (X : Call') (n : Nat) (a0 : Int) (a1 : List UInt8) (a2 : List UInt8) (a3 : Int) (a4 : Int) (a5 : Int) (a6 : Int) (a7 : List UInt8) (a8T : Nat) (a8C : Cp) (a8 : List Row) (a9 : Int) (a10 : Int) (a11 : List UInt8) (a12T : Nat) (a12C : Cp) (a12 : List Row) (a13T : Nat) (a13C : Cp) (a13 : List Row) (a14T : Nat) (a14C : Cp) (a14 : List Row) (a15T : Nat) (a15C : Cp) (a15 : List Row) (a16T : Nat) (a16C : Cp) (a16 : List Row) (k : Int) (deep : Int) (u0 : Int) (u1 : Bool) (u2 : Bool) : evBody ⟨L, F, nt, X⟩ (lookV V 81) n Try.f81 (sig F 81).res [AV.int IntKind.i64 k, AV.int IntKind.i64 deep, AV.agg [AV.int IntKind.u8 a0, AV.str a1, AV.str a2, AV.int IntKind.u8 a3, AV.int IntKind.u8 a4, AV.int IntKind.u8 a5, AV.int IntKind.i64 a6, AV.str a7, AV.ps a8T 26 a8C a8, AV.int IntKind.u8 a9, AV.int IntKind.i64 a10, AV.str a11, AV.ps a12T 26 a12C a12, AV.ps a13T 58 a13C a13, AV.ps a14T 58 a14C a14, AV.ps a15T 58 a15C a15, AV.ps a16T 9 a16C a16], AV.ptr 0 0 0 0] [AObj.box 51 [AV.int IntKind.u8 u0, AV.bool u1, AV.bool u2]] = f81 nt X n a0 a3 a5 a6 a7 a8T a8C a8 u0 u1 u2 := by kernel_rfl

def sp82 : Sp
  | [.ps _ 49 _ l], [] => bif Nat.blt l.length big then some ([.int .u8 (joinR l 0)], []) else none
  | _, _ => none
theorem f82_loop {nt n : Nat} {X : Call'} {l : List Row} (hb : l.length < big) : ∀ (fu j : Nat) (o : Int), j ≤ l.length → l.length - j < fu →
    f82_3_L nt X n (fun i7 => f82_3_P0 nt X n i7) l fu o j = some ([.int .u8 (joinR (l.drop j) o)], [])
  | 0, j, o, h1, h2 => by omega
  | fu + 1, j, o, h1, h2 => by
    by_cases hk : j < l.length
    · have h3 : decide ((j : Int) < (l.length : Int)) = true := by simp only [decide_eq_true_eq]; omega
      have h4 : decide ((0 : Int) ≤ (j : Int)) = true := by simp only [decide_eq_true_eq]; omega
      have hw := wrap_i64_nat (k := j) (by unfold big at hb; omega)
      rw [drop_nth hk]
      simp only [f82_3_L, f82_3, h3, h4, Bool.and_self, cond_true, Int.toNat_natCast, hw, joinR, List.foldl_cons]
      exact f82_loop hb fu (j + 1) _ (by omega) (by omega)
    · obtain rfl : j = l.length := by omega
      have h3 : decide (((l.length : Nat) : Int) < (l.length : Int)) = false := by simp
      simp only [f82_3_L, f82_3, h3, List.drop_length, joinR, List.foldl_nil, cond_false, f82_3_P0]
theorem told82 (nt : Nat) : Facts nt 82 sp82 := fun args h rs h' hv => by
  unfold sp82 at hv
  split at hv
  · rename_i T C l
    cases hb : Nat.blt l.length big
    · rw [hb] at hv; cases hv
    · rw [hb] at hv
      rw [nblt] at hb
      refine fact_tab Try.func82 [] (l.length + 1) ?_
      rw [f82_q, ← hv]
      exact f82_loop hb (l.length + 1) 0 0 (by omega) (by omega)
  · cases hv
def sp84 : Sp
  | [.str s, .ptr 0 0 0 0], [.box 51 [.int .u8 u0, .bool u1, .bool u2]] => some ([], [.box 51 [.int .u8 u0, .bool u1, .bool true]])
  | _, _ => none
theorem told84 (nt : Nat) : Facts nt 84 sp84 := fun args h rs h' hv => by
  unfold sp84 at hv
  split at hv
  · refine fact_tab Try.func84 [] 1 ?_
    rw [f84_q, ← hv]
    rfl
  · cases hv
def sp83u (m : Nat) : Sp
  | [.agg [.int .u8 k, .int .i64 n, .str s, .ps _ 26 _ l], .func (some 84) [.ptr 0 0 0 0]], [.box 51 [.int .u8 u0, .bool u1, .bool u2]] =>
    bif Nat.blt (szR l) m then some ([], [.box 51 [.int .u8 u0, .bool u1, .bool (u2 || named (.mk k n s (exsOf l)))]]) else none
  | _, _ => none
theorem f83u_loop {nt m n : Nat} {h83 : Facts nt 83 (sp83u m)} {l : List Row} (hm : m < big) (hl : szR l < m + 1) : ∀ (fu j : Nat) (u0 : Int) (u1 u2 : Bool), j ≤ l.length → l.length - j < fu →
    f83u_4_L nt (tab [⟨83, sp83u m, h83⟩, ⟨84, sp84, told84 nt⟩]) n (fun i19 b20 b21 => f83u_4_P0 nt (tab [⟨83, sp83u m, h83⟩, ⟨84, sp84, told84 nt⟩]) n i19 b20 b21) l fu j u0 u1 u2 = some ([], [.box 51 [.int .u8 u0, .bool u1, .bool (u2 || namedL (exsOf (l.drop j)))]])
  | 0, j, u0, u1, u2, h1, h2 => by omega
  | fu + 1, j, u0, u1, u2, h1, h2 => by
    have hlen : l.length ≤ szR l := szR_len l
    by_cases hk : j < l.length
    · have hmm := nth_mem (d := []) hk
      have hs := sz_mem hmm
      have s3 := sz_nth (nth [] l j) 3
      have h3 : decide ((j : Int) < (l.length : Int)) = true := by simp only [decide_eq_true_eq]; omega
      have h4 : decide ((0 : Int) ≤ (j : Int)) = true := by simp only [decide_eq_true_eq]; omega
      have hw := wrap_i64_nat (k := j) (by unfold big at hm; omega)
      have hg : Nat.blt (szR (nth .u (nth [] l j) 3).toR) m = true := by rw [nblt]; omega
      have e83 : tab [⟨83, sp83u m, h83⟩, ⟨84, sp84, told84 nt⟩] 83 [.agg [.int .u8 (nth .u (nth [] l j) 0).toI, .int .i64 (nth .u (nth [] l j) 1).toI, .str (nth .u (nth [] l j) 2).toS, .ps (nth .u (nth [] l j) 3).toTg 26 (nth .u (nth [] l j) 3).toCp (nth .u (nth [] l j) 3).toR], .func (some 84) [.ptr 0 0 0 0]] [.box 51 [.int .u8 u0, .bool u1, .bool u2]] = some ([], [.box 51 [.int .u8 u0, .bool u1, .bool (u2 || named (exOf (nth [] l j)))]]) := by
        rw [tab_hit]; simp only [sp83u, hg, cond_true, exOf_eq]
      have ih := f83u_loop (nt := nt) (n := n) (h83 := h83) hm hl fu (j + 1) u0 u1 (u2 || named (exOf (nth [] l j))) (by omega) (by omega)
      rw [drop_nth hk]
      simp only [f83u_4_L, f83u_4, h3, h4, Bool.and_self, cond_true, Int.toNat_natCast, e83, Option.bind_some, toI_int, toB_bool, toRow_box, nth_zero, nth_1, nth_2, hw, ih, exsOf, List.map_cons, namedL, Bool.or_assoc]
    · obtain rfl : j = l.length := by omega
      have h3 : decide (((l.length : Nat) : Int) < (l.length : Int)) = false := by simp
      simp only [f83u_4_L, f83u_4, h3, List.drop_length, exsOf, List.map_nil, namedL, cond_false, f83u_4_P0, Bool.or_false]
theorem told83u_step {nt m : Nat} (hm : m < big) (h83 : Facts nt 83 (sp83u m)) : Facts nt 83 (sp83u (m + 1)) := fun args h rs h' hv => by
  unfold sp83u at hv
  split at hv
  · rename_i k n s T C l u0 u1 u2
    cases hb : Nat.blt (szR l) (m + 1)
    · rw [hb] at hv; cases hv
    · rw [hb] at hv
      rw [nblt] at hb
      refine fact_tab Try.func83 [⟨83, sp83u m, h83⟩, ⟨84, sp84, told84 nt⟩] (l.length + 1) ?_
      have hl := fun u0 u1 u2 => f83u_loop (nt := nt) (n := l.length + 1) (h83 := h83) hm hb (l.length + 1) 0 u0 u1 u2 (by omega) (by omega)
      simp only [List.drop_zero] at hl
      have e84 : tab [⟨83, sp83u m, h83⟩, ⟨84, sp84, told84 nt⟩] 84 [.str s, .ptr 0 0 0 0] [.box 51 [.int .u8 u0, .bool u1, .bool u2]] = some ([], [.box 51 [.int .u8 u0, .bool u1, .bool true]]) := by
        rw [tab_miss rfl, tab_hit]; rfl
      rw [f83u_q, ← hv]
      simp only [f83u, f83u_R, f83u_J4, e84, Option.bind_some, toI_int, toB_bool, toRow_box, nth_zero, nth_1, nth_2, cond_true]
      have hl' := fun u0 u1 u2 => hl u0 u1 u2
      simp only [Int.natCast_zero] at hl'
      simp only [hl', named]
      cases decide (k = 4)
      · simp
      · simp
  · cases hv
theorem told83u (nt : Nat) : ∀ m, m ≤ big → Facts nt 83 (sp83u m)
  | 0, _ => fun args h rs h' hv => by
    unfold sp83u at hv
    split at hv
    · rw [show Nat.blt (szR _) 0 = false from by cases hq : Nat.blt (szR _) 0; rfl; rw [nblt] at hq; omega] at hv; cases hv
    · cases hv
  | m + 1, hm => told83u_step (by omega) (told83u nt m (by omega))
def sp81 : Sp
  | [.int .i64 kk, .int .i64 deep, .agg [.int .u8 op, .str nm, .str sec, .int .u8 ab, .int .u8 wh, .int .u8 k, .int .i64 n, .str s, .ps t 26 c l, .int .u8 k2, .int .i64 n2, .str s2, .ps t2 26 c2 l2, .ps t3 58 c3 l3, .ps t4 58 c4 l4, .ps t5 58 c5 l5, .ps t6 9 c6 l6], .ptr 0 0 0 0], [.box 51 [.int .u8 u0, .bool u1, .bool u2]] =>
    bif gS ab l l2 l6 then some ([.bool true], [.box 51 [.int .u8 (us (.mk op nm sec ab wh (.mk k n s (exsOf l)) (.mk k2 n2 s2 (exsOf l2)) (smsOf l3) (smsOf l4) (smsOf l5) (strsOf l6)) (u0, u1, u2)).1, .bool (us (.mk op nm sec ab wh (.mk k n s (exsOf l)) (.mk k2 n2 s2 (exsOf l2)) (smsOf l3) (smsOf l4) (smsOf l5) (strsOf l6)) (u0, u1, u2)).2.1, .bool (us (.mk op nm sec ab wh (.mk k n s (exsOf l)) (.mk k2 n2 s2 (exsOf l2)) (smsOf l3) (smsOf l4) (smsOf l5) (strsOf l6)) (u0, u1, u2)).2.2]]) else none
  | _, _ => none
theorem told81 (nt : Nat) : Facts nt 81 sp81 := fun args h rs h' hv => by
  unfold sp81 at hv
  split at hv
  · rename_i kk deep op nm sec ab wh k n s t c l k2 n2 s2 t2 c2 l2 t3 c3 l3 t4 c4 l4 t5 c5 l5 t6 c6 l6 u0 u1 u2
    cases hb : gS ab l l2 l6
    · rw [hb] at hv; cases hv
    · rw [hb] at hv
      have g1 := (gS_iff hb).1
      refine fact_tab Try.func81 [⟨82, sp82, told82 nt⟩, ⟨83, sp83u big, told83u nt big (Nat.le_refl _)⟩] 1 ?_
      have e82 : ∀ a, tab [⟨82, sp82, told82 nt⟩, ⟨83, sp83u big, told83u nt big (Nat.le_refl _)⟩] 82 [.ps nt 49 ⟨false, false⟩ [[.int .u8 u0], [.int .u8 a]]] [] = some ([.int .u8 (join1 (join1 0 u0) a)], []) := fun a => by
        rw [tab_hit]; rfl
      have e83 : tab [⟨82, sp82, told82 nt⟩, ⟨83, sp83u big, told83u nt big (Nat.le_refl _)⟩] 83 [.agg [.int .u8 k, .int .i64 n, .str s, .ps t 26 c l], .func (some 84) [.ptr 0 0 0 0]] [.box 51 [.int .u8 u0, .bool u1, .bool u2]] = some ([], [.box 51 [.int .u8 u0, .bool u1, .bool (u2 || named (.mk k n s (exsOf l)))]]) := by
        rw [tab_miss rfl, tab_hit]; simp only [sp83u, g1, cond_true]
      rw [f81_q, ← hv]
      simp only [f81, e82, e83, Option.bind_some, toI_int, toB_bool, toCells_int, toRow_box, nth_zero, nth_1, nth_2, us, cond_true]
      generalize decide (op = 2) = b2
      generalize decide (op = 9) = b9
      generalize decide (op = 3) = b3
      generalize decide (op = 7) = b7
      cases b2 <;> cases b9 <;> cases b3 <;> cases b7 <;> rfl
  · cases hv
end Go.Ev.T
