/- Function 48 (the law's own 'alike'), decompiled, and what it comes to. -/
import Derived.Test.YtljiamlnpmhpmaaF134
set_option linter.unusedVariables false
set_option linter.unusedSimpArgs false
noncomputable section
namespace Go.Ev.T
open Go Go.Ev Go.Proofs
def f48_4_S (a0 : Int) (a1 : Int) (a2 : List UInt8) (a3T : Nat) (a3C : Cp) (a3 : List Row) (a4 : Int) (b0 : Int) (b1 : Int) (b2 : List UInt8) (b3T : Nat) (b3C : Cp) (b3 : List Row) (b4 : Int) (i20 : Int) : St := St.mk [AV.u, AV.u, AV.ptr 0 0 0 0, AV.ptr 1 0 0 0, AV.u, AV.int IntKind.i64 i20, AV.u, AV.u, AV.u, AV.u, AV.u, AV.u, AV.u, AV.u, AV.u, AV.u, AV.u, AV.u, AV.u, AV.u, AV.u, AV.u, AV.u, AV.u, AV.u, AV.u, AV.u, AV.u, AV.u, AV.u, AV.u, AV.u, AV.u, AV.u, AV.u, AV.u, AV.u, AV.u, AV.u, AV.u, AV.u, AV.u, AV.u, AV.u, AV.u, AV.u, AV.u, AV.u, AV.u, AV.u, AV.u, AV.u, AV.u, AV.u, AV.u, AV.u, AV.u, AV.u, AV.u, AV.u] [AObj.box 34 [AV.int IntKind.u8 a0, AV.int IntKind.i64 a1, AV.str a2, AV.ps a3T 34 a3C a3, AV.int IntKind.i64 a4], AObj.box 34 [AV.int IntKind.u8 b0, AV.int IntKind.i64 b1, AV.str b2, AV.ps b3T 34 b3C b3, AV.int IntKind.i64 b4]]
def f48_4_X0 (a0 : Int) (a1 : Int) (a2 : List UInt8) (a3T : Nat) (a3C : Cp) (a3 : List Row) (a4 : Int) (b0 : Int) (b1 : Int) (b2 : List UInt8) (b3T : Nat) (b3C : Cp) (b3 : List Row) (b4 : Int) : St := St.mk [AV.u, AV.u, AV.u, AV.u, AV.bool false, AV.u, AV.u, AV.u, AV.u, AV.u, AV.u, AV.u, AV.u, AV.u, AV.u, AV.u, AV.u, AV.u, AV.u, AV.u, AV.u, AV.u, AV.u, AV.u, AV.u, AV.u, AV.u, AV.u, AV.u, AV.u, AV.u, AV.u, AV.u, AV.u, AV.u, AV.u, AV.u, AV.u, AV.u, AV.u, AV.u, AV.u, AV.u, AV.u, AV.u, AV.u, AV.u, AV.u, AV.u, AV.u, AV.u, AV.u, AV.u, AV.u, AV.u, AV.u, AV.u, AV.u, AV.u, AV.u] [AObj.box 34 [AV.int IntKind.u8 a0, AV.int IntKind.i64 a1, AV.str a2, AV.ps a3T 34 a3C a3, AV.int IntKind.i64 a4], AObj.box 34 [AV.int IntKind.u8 b0, AV.int IntKind.i64 b1, AV.str b2, AV.ps b3T 34 b3C b3, AV.int IntKind.i64 b4]]
def f48_4_X1 (a0 : Int) (a1 : Int) (a2 : List UInt8) (a3T : Nat) (a3C : Cp) (a3 : List Row) (a4 : Int) (b0 : Int) (b1 : Int) (b2 : List UInt8) (b3T : Nat) (b3C : Cp) (b3 : List Row) (b4 : Int) : St := St.mk [AV.u, AV.u, AV.u, AV.u, AV.u, AV.u, AV.u, AV.u, AV.u, AV.u, AV.u, AV.u, AV.u, AV.u, AV.u, AV.u, AV.u, AV.u, AV.u, AV.u, AV.u, AV.u, AV.u, AV.u, AV.u, AV.u, AV.u, AV.u, AV.u, AV.u, AV.u, AV.u, AV.u, AV.u, AV.u, AV.u, AV.u, AV.u, AV.u, AV.u, AV.u, AV.u, AV.u, AV.u, AV.u, AV.u, AV.u, AV.u, AV.u, AV.u, AV.u, AV.u, AV.u, AV.u, AV.u, AV.u, AV.u, AV.u, AV.u, AV.u] [AObj.box 34 [AV.int IntKind.u8 a0, AV.int IntKind.i64 a1, AV.str a2, AV.ps a3T 34 a3C a3, AV.int IntKind.i64 a4], AObj.box 34 [AV.int IntKind.u8 b0, AV.int IntKind.i64 b1, AV.str b2, AV.ps b3T 34 b3C b3, AV.int IntKind.i64 b4]]
def f48_4 {ρ : Type} (nt : Nat) (X : Call') (n : Nat) (kN : Int → Option ρ) (x0 : Option ρ) (x1 : Option ρ) (a3 : List Row) (b3 : List Row) (i20 : Int) : Option ρ :=
  (bif decide (i20 < (↑(List.length a3) : Int)) then (bif decide (0 ≤ i20) && decide (i20 < (↑(List.length a3) : Int)) then (bif decide (0 ≤ i20) && decide (i20 < (↑(List.length b3) : Int)) then ((X 48 [AV.agg [AV.int IntKind.u8 (AV.toI (nth AV.u (nth [] a3 (Int.toNat i20)) 0)), AV.int IntKind.i64 (AV.toI (nth AV.u (nth [] a3 (Int.toNat i20)) 1)), AV.str (AV.toS (nth AV.u (nth [] a3 (Int.toNat i20)) 2)), AV.ps (AV.toTg (nth AV.u (nth [] a3 (Int.toNat i20)) 3)) 34 (AV.toCp (nth AV.u (nth [] a3 (Int.toNat i20)) 3)) (AV.toR (nth AV.u (nth [] a3 (Int.toNat i20)) 3)), AV.int IntKind.i64 (AV.toI (nth AV.u (nth [] a3 (Int.toNat i20)) 4))], AV.agg [AV.int IntKind.u8 (AV.toI (nth AV.u (nth [] b3 (Int.toNat i20)) 0)), AV.int IntKind.i64 (AV.toI (nth AV.u (nth [] b3 (Int.toNat i20)) 1)), AV.str (AV.toS (nth AV.u (nth [] b3 (Int.toNat i20)) 2)), AV.ps (AV.toTg (nth AV.u (nth [] b3 (Int.toNat i20)) 3)) 34 (AV.toCp (nth AV.u (nth [] b3 (Int.toNat i20)) 3)) (AV.toR (nth AV.u (nth [] b3 (Int.toNat i20)) 3)), AV.int IntKind.i64 (AV.toI (nth AV.u (nth [] b3 (Int.toNat i20)) 4))]] []).bind fun r21 => (bif !AV.toB (nth AV.u (AV.toCells (nth AV.u (Prod.fst r21) 0)) 0) then x0  else kN (IntKind.wrap IntKind.i64 (i20 + 1)))) else none) else none) else x1 )
theorem f48_4_q {ρ : Type} (nt : Nat) (X : Call') (n : Nat) (kN : St → Option ρ) (kX : Nat → St → Option ρ) (kR : St → Option ρ) (a0 : Int) (a1 : Int) (a2 : List UInt8) (a3T : Nat) (a3C : Cp) (a3 : List Row) (a4 : Int) (b0 : Int) (b1 : Int) (b2 : List UInt8) (b3T : Nat) (b3C : Cp) (b3 : List Row) (b4 : Int) (i20 : Int) : stepL ⟨L, F, nt, X⟩ ⟨0, lookV V 48⟩ n (subc (bodyOf Try.f48) [1, 1, 0, 1, 0, 0]) (look (lookV V 48) 4).xl kX kR (fun s => kN ((clean 0 2 (look (lookV V 48) 4) []) s)) (f48_4_S a0 a1 a2 a3T a3C a3 a4 b0 b1 b2 b3T b3C b3 b4 i20) = f48_4 nt X n (fun i20 => kN (f48_4_S a0 a1 a2 a3T a3C a3 a4 b0 b1 b2 b3T b3C b3 b4 i20)) (kR (f48_4_X0 a0 a1 a2 a3T a3C a3 a4 b0 b1 b2 b3T b3C b3 b4)) (kX 0 (f48_4_X1 a0 a1 a2 a3T a3C a3 a4 b0 b1 b2 b3T b3C b3 b4)) a3 b3 i20 := by kernel_rfl
def f48_4_L {ρ : Type} (nt : Nat) (X : Call') (n : Nat) (x0 : Option ρ) (x1 : Option ρ) (a3 : List Row) (b3 : List Row) : Nat → Int → Option ρ
  | 0, _ => none
  | m + 1, i20 => f48_4 nt X n (fun i20 => f48_4_L nt X n x0 x1 a3 b3 m i20) x0 x1 a3 b3 i20
theorem f48_4_e {ρ : Type} (nt : Nat) (X : Call') (n : Nat) (kX : Nat → St → Option ρ) (kR : St → Option ρ) (a0 : Int) (a1 : Int) (a2 : List UInt8) (a3T : Nat) (a3C : Cp) (a3 : List Row) (a4 : Int) (b0 : Int) (b1 : Int) (b2 : List UInt8) (b3T : Nat) (b3C : Cp) (b3 : List Row) (b4 : Int) (m : Nat) (i20 : Int) : loopN (stepL ⟨L, F, nt, X⟩ ⟨0, lookV V 48⟩ n (subc (bodyOf Try.f48) [1, 1, 0, 1, 0, 0]) (look (lookV V 48) 4).xl kX kR) (clean 0 2 (look (lookV V 48) 4) []) m (f48_4_S a0 a1 a2 a3T a3C a3 a4 b0 b1 b2 b3T b3C b3 b4 i20) = f48_4_L nt X n (kR (f48_4_X0 a0 a1 a2 a3T a3C a3 a4 b0 b1 b2 b3T b3C b3 b4)) (kX 0 (f48_4_X1 a0 a1 a2 a3T a3C a3 a4 b0 b1 b2 b3T b3C b3 b4)) a3 b3 m i20 :=
  loopN_ind (α := Int) (fun w => ((fun i20 => (f48_4_S a0 a1 a2 a3T a3C a3 a4 b0 b1 b2 b3T b3C b3 b4 i20))) w) (fun k w => ((fun i20 => f48_4 nt X n (fun i20 => k (i20)) (kR (f48_4_X0 a0 a1 a2 a3T a3C a3 a4 b0 b1 b2 b3T b3C b3 b4)) (kX 0 (f48_4_X1 a0 a1 a2 a3T a3C a3 a4 b0 b1 b2 b3T b3C b3 b4)) a3 b3 i20)) w) (fun m w => ((fun i20 => f48_4_L nt X n (kR (f48_4_X0 a0 a1 a2 a3T a3C a3 a4 b0 b1 b2 b3T b3C b3 b4)) (kX 0 (f48_4_X1 a0 a1 a2 a3T a3C a3 a4 b0 b1 b2 b3T b3C b3 b4)) a3 b3 m i20)) w) (fun _ => rfl) (fun _ _ => rfl) (fun kN w => ((fun i20 => f48_4_q nt X n kN kX kR a0 a1 a2 a3T a3C a3 a4 b0 b1 b2 b3T b3C b3 b4 i20)) w) m (i20)
def f48_4_P0 (nt : Nat) (X : Call') (n : Nat)  : Option (List AV × List AObj) :=
  some (([AV.bool false], []))
theorem f48_4_P0_q (nt : Nat) (X : Call') (n : Nat) (a0 : Int) (a1 : Int) (a2 : List UInt8) (a3T : Nat) (a3C : Cp) (a3 : List Row) (a4 : Int) (b0 : Int) (b1 : Int) (b2 : List UInt8) (b3T : Nat) (b3C : Cp) (b3 : List Row) (b4 : Int) : (finish ⟨L, F, nt, X⟩ Try.f48 (sig F 48).res []) (f48_4_X0 a0 a1 a2 a3T a3C a3 a4 b0 b1 b2 b3T b3C b3 b4) = f48_4_P0 nt X n  := by kernel_rfl
def f48_4_P1 (nt : Nat) (X : Call') (n : Nat)  : Option (List AV × List AObj) :=
  some (([AV.bool true], []))
theorem f48_4_P1_q (nt : Nat) (X : Call') (n : Nat) (a0 : Int) (a1 : Int) (a2 : List UInt8) (a3T : Nat) (a3C : Cp) (a3 : List Row) (a4 : Int) (b0 : Int) (b1 : Int) (b2 : List UInt8) (b3T : Nat) (b3C : Cp) (b3 : List Row) (b4 : Int) : (kNf ⟨L, F, nt, X⟩ ⟨0, lookV V 48⟩ n (finish ⟨L, F, nt, X⟩ Try.f48 (sig F 48).res []) (finish ⟨L, F, nt, X⟩ Try.f48 (sig F 48).res []) (fun _ _ => none) [.block 0, .seq (subc (bodyOf Try.f48) [1, 1, 1])]).2 0 (f48_4_X1 a0 a1 a2 a3T a3C a3 a4 b0 b1 b2 b3T b3C b3 b4) = f48_4_P1 nt X n  := by kernel_rfl
def f48_J2 (nt : Nat) (X : Call') (n : Nat) (L0 : Int → Option (List AV × List AObj))  (b18 : Bool) : Option (List AV × List AObj) :=
  (bif b18 then some (([AV.bool false], [])) else L0  (0))
def f48_R (nt : Nat) (X : Call') (n : Nat) (L0 : Int → Option (List AV × List AObj)) (a0 : Int) (a1 : Int) (a2 : List UInt8) (a3 : List Row) (a4 : Int) (b0 : Int) (b1 : Int) (b2 : List UInt8) (b3 : List Row) (b4 : Int) : Option (List AV × List AObj) :=
  (bif !decide (a0 = b0) then f48_J2 nt X n L0  (true) else (bif !decide (a1 = b1) then f48_J2 nt X n L0  (true) else (bif !decide (a2 = b2) then f48_J2 nt X n L0  (true) else (bif !decide (a4 = b4) then f48_J2 nt X n L0  (true) else f48_J2 nt X n L0  (!decide ((↑(List.length a3) : Int) = (↑(List.length b3) : Int)))))))
def f48 (nt : Nat) (X : Call') (n : Nat) (a0 : Int) (a1 : Int) (a2 : List UInt8) (a3 : List Row) (a4 : Int) (b0 : Int) (b1 : Int) (b2 : List UInt8) (b3 : List Row) (b4 : Int) : Option (List AV × List AObj) :=
  f48_R nt X n (fun i20 => f48_4_L nt X n (f48_4_P0 nt X n ) (f48_4_P1 nt X n ) a3 b3 n i20) a0 a1 a2 a3 a4 b0 b1 b2 b3 b4
theorem f48_q (nt : Nat) (X : Call') (n : Nat) (a0 : Int) (a1 : Int) (a2 : List UInt8) (a3T : Nat) (a3C : Cp) (a3 : List Row) (a4 : Int) (b0 : Int) (b1 : Int) (b2 : List UInt8) (b3T : Nat) (b3C : Cp) (b3 : List Row) (b4 : Int) : evBody ⟨L, F, nt, X⟩ (lookV V 48) n Try.f48 (sig F 48).res [AV.agg [AV.int IntKind.u8 a0, AV.int IntKind.i64 a1, AV.str a2, AV.ps a3T 34 a3C a3, AV.int IntKind.i64 a4], AV.agg [AV.int IntKind.u8 b0, AV.int IntKind.i64 b1, AV.str b2, AV.ps b3T 34 b3C b3, AV.int IntKind.i64 b4]] [] = f48 nt X n a0 a1 a2 a3 a4 b0 b1 b2 b3 b4 :=
  Eq.trans (b := f48_R nt X n (fun i20 => loopN (stepL ⟨L, F, nt, X⟩ ⟨0, lookV V 48⟩ n (subc (bodyOf Try.f48) [1, 1, 0, 1, 0, 0]) (look (lookV V 48) 4).xl (kNf ⟨L, F, nt, X⟩ ⟨0, lookV V 48⟩ n (finish ⟨L, F, nt, X⟩ Try.f48 (sig F 48).res []) (finish ⟨L, F, nt, X⟩ Try.f48 (sig F 48).res []) (fun _ _ => none) [.block 0, .seq (subc (bodyOf Try.f48) [1, 1, 1])]).2 (finish ⟨L, F, nt, X⟩ Try.f48 (sig F 48).res [])) (clean 0 2 (look (lookV V 48) 4) []) n (f48_4_S a0 a1 a2 a3T a3C a3 a4 b0 b1 b2 b3T b3C b3 b4 i20)) a0 a1 a2 a3 a4 b0 b1 b2 b3 b4) (by kernel_rfl) (congrArg (fun q => q a0 a1 a2 a3 a4 b0 b1 b2 b3 b4) (congrArg (f48_R nt X n ) (show (fun i20 => loopN (stepL ⟨L, F, nt, X⟩ ⟨0, lookV V 48⟩ n (subc (bodyOf Try.f48) [1, 1, 0, 1, 0, 0]) (look (lookV V 48) 4).xl (kNf ⟨L, F, nt, X⟩ ⟨0, lookV V 48⟩ n (finish ⟨L, F, nt, X⟩ Try.f48 (sig F 48).res []) (finish ⟨L, F, nt, X⟩ Try.f48 (sig F 48).res []) (fun _ _ => none) [.block 0, .seq (subc (bodyOf Try.f48) [1, 1, 1])]).2 (finish ⟨L, F, nt, X⟩ Try.f48 (sig F 48).res [])) (clean 0 2 (look (lookV V 48) 4) []) n (f48_4_S a0 a1 a2 a3T a3C a3 a4 b0 b1 b2 b3T b3C b3 b4 i20)) = _ from funext fun i20 => (f48_4_e nt X n (kNf ⟨L, F, nt, X⟩ ⟨0, lookV V 48⟩ n (finish ⟨L, F, nt, X⟩ Try.f48 (sig F 48).res []) (finish ⟨L, F, nt, X⟩ Try.f48 (sig F 48).res []) (fun _ _ => none) [.block 0, .seq (subc (bodyOf Try.f48) [1, 1, 1])]).2 (finish ⟨L, F, nt, X⟩ Try.f48 (sig F 48).res []) a0 a1 a2 a3T a3C a3 a4 b0 b1 b2 b3T b3C b3 b4 n i20).trans (congrArg (fun q => q a3 b3 n i20) (congr (congrArg (f48_4_L nt X n) (show ((finish ⟨L, F, nt, X⟩ Try.f48 (sig F 48).res []) (f48_4_X0 a0 a1 a2 a3T a3C a3 a4 b0 b1 b2 b3T b3C b3 b4)) = (f48_4_P0 nt X n ) from (f48_4_P0_q nt X n a0 a1 a2 a3T a3C a3 a4 b0 b1 b2 b3T b3C b3 b4))) (show ((kNf ⟨L, F, nt, X⟩ ⟨0, lookV V 48⟩ n (finish ⟨L, F, nt, X⟩ Try.f48 (sig F 48).res []) (finish ⟨L, F, nt, X⟩ Try.f48 (sig F 48).res []) (fun _ _ => none) [.block 0, .seq (subc (bodyOf Try.f48) [1, 1, 1])]).2 0 (f48_4_X1 a0 a1 a2 a3T a3C a3 a4 b0 b1 b2 b3T b3C b3 b4)) = (f48_4_P1 nt X n ) from (f48_4_P1_q nt X n a0 a1 a2 a3T a3C a3 a4 b0 b1 b2 b3T b3C b3 b4)))))))


def sp48 (m : Nat) : Sp
  | [.agg [.int .u8 k, .int .i64 n, .str s, .ps _ 34 _ l, .int .i64 r], .agg [.int .u8 k2, .int .i64 n2, .str s2, .ps _ 34 _ l2, .int .i64 r2]], [] => bif Nat.blt (szR l) m then some ([.bool (sameVl (.mk k n s (vlsOf l) r) (.mk k2 n2 s2 (vlsOf l2) r2))], []) else none
  | _, _ => none
theorem f48_loop {nt m n : Nat} {h48 : Facts nt 48 (sp48 m)} {la lb : List Row} (hm : m < huge) (hl : szR la < m + 1) (hll : la.length = lb.length) (x0 x1 : Option (List AV × List AObj)) : ∀ (fu j : Nat), j ≤ la.length → la.length - j < fu →
    f48_4_L nt (tab [⟨48, sp48 m, h48⟩]) n x0 x1 la lb fu j = bif sameVls (vlsOf (la.drop j)) (vlsOf (lb.drop j)) then x1 else x0
  | 0, j, h1, h2 => by omega
  | fu + 1, j, h1, h2 => by
    have hlen : la.length ≤ szR la := szR_len la
    by_cases hk : j < la.length
    · have hmm := nth_mem (d := []) hk
      have hs := sz_mem hmm
      have s3 := sz_nth (nth [] la j) 3
      have h3 : decide ((j : Int) < (la.length : Int)) = true := by simp only [decide_eq_true_eq]; omega
      have h3' : decide ((j : Int) < (lb.length : Int)) = true := by simp only [decide_eq_true_eq]; omega
      have h4 : decide ((0 : Int) ≤ (j : Int)) = true := by simp only [decide_eq_true_eq]; omega
      have hw := wrap_i64_nat (k := j) (by unfold huge at hm; omega)
      have hg : Nat.blt (szR (nth .u (nth [] la j) 3).toR) m = true := by rw [nblt]; omega
      have e : tab [⟨48, sp48 m, h48⟩] 48 [.agg [.int .u8 (nth .u (nth [] la j) 0).toI, .int .i64 (nth .u (nth [] la j) 1).toI, .str (nth .u (nth [] la j) 2).toS, .ps (nth .u (nth [] la j) 3).toTg 34 (nth .u (nth [] la j) 3).toCp (nth .u (nth [] la j) 3).toR, .int .i64 (nth .u (nth [] la j) 4).toI], .agg [.int .u8 (nth .u (nth [] lb j) 0).toI, .int .i64 (nth .u (nth [] lb j) 1).toI, .str (nth .u (nth [] lb j) 2).toS, .ps (nth .u (nth [] lb j) 3).toTg 34 (nth .u (nth [] lb j) 3).toCp (nth .u (nth [] lb j) 3).toR, .int .i64 (nth .u (nth [] lb j) 4).toI]] [] = some ([.bool (sameVl (vlOf (nth [] la j)) (vlOf (nth [] lb j)))], []) := by
        rw [tab_hit]; simp only [sp48, hg, cond_true, vlOf_eq]
      have ih := f48_loop (nt := nt) (n := n) (h48 := h48) hm hl hll x0 x1 fu (j + 1) (by omega) (by omega)
      rw [drop_nth hk, drop_nth (l := lb) (by omega)]
      simp only [f48_4_L, f48_4, h3, h3', h4, Bool.and_self, cond_true, Int.toNat_natCast, e, Option.bind_some, toB_bool, toCells_bool, nth_zero, hw, ih, vlsOf, List.map_cons, sameVls]
      cases sameVl (vlOf (nth [] la j)) (vlOf (nth [] lb j)) <;> rfl
    · obtain rfl : j = la.length := by omega
      have h3 : decide (((la.length : Nat) : Int) < (la.length : Int)) = false := by simp
      rw [List.drop_length, hll, List.drop_length]
      rw [hll] at h3
      simp only [f48_4_L, f48_4, hll, h3, vlsOf, List.map_nil, sameVls, cond_false, cond_true]
theorem sameVls_len : ∀ (a b : List Vl), sameVls a b = true → a.length = b.length := fun a b h => by rw [(sameVls_iff a b).1 h]
theorem told48_step {nt m : Nat} (hm : m < huge) (h48 : Facts nt 48 (sp48 m)) : Facts nt 48 (sp48 (m + 1)) := fun args h rs h' hv => by
  unfold sp48 at hv
  split at hv
  · rename_i k n s t c l r k2 n2 s2 t2 c2 l2 r2
    cases hb : Nat.blt (szR l) (m + 1)
    · rw [hb] at hv; cases hv
    · rw [hb] at hv
      rw [nblt] at hb
      refine fact_tab Try.func48 [⟨48, sp48 m, h48⟩] (l.length + 1) ?_
      rw [f48_q, ← hv]
      have hJ : ∀ b, (b = !decide ((l.length : Int) = (l2.length : Int))) → f48_J2 nt (tab [⟨48, sp48 m, h48⟩]) (l.length + 1) (fun i20 => f48_4_L nt (tab [⟨48, sp48 m, h48⟩]) (l.length + 1) (f48_4_P0 nt (tab [⟨48, sp48 m, h48⟩]) (l.length + 1)) (f48_4_P1 nt (tab [⟨48, sp48 m, h48⟩]) (l.length + 1)) l l2 (l.length + 1) i20) b = some ([.bool (sameVls (vlsOf l) (vlsOf l2))], []) := fun b hbb => by
        by_cases hll : l.length = l2.length
        · have h1 : decide ((l.length : Int) = (l2.length : Int)) = true := by simp; omega
          rw [h1] at hbb
          subst hbb
          have hl := f48_loop (nt := nt) (n := l.length + 1) (h48 := h48) hm hb hll (f48_4_P0 nt (tab [⟨48, sp48 m, h48⟩]) (l.length + 1)) (f48_4_P1 nt (tab [⟨48, sp48 m, h48⟩]) (l.length + 1)) (l.length + 1) 0 (by omega) (by omega)
          simp only [List.drop_zero, Int.natCast_zero, Int.ofNat_zero] at hl
          simp only [f48_J2, Bool.not_true, cond_false, hl]
          cases sameVls (vlsOf l) (vlsOf l2) <;> rfl
        · have h1 : decide ((l.length : Int) = (l2.length : Int)) = false := by simp; omega
          rw [h1] at hbb
          subst hbb
          have h2 : sameVls (vlsOf l) (vlsOf l2) = false := by
            cases hq : sameVls (vlsOf l) (vlsOf l2)
            · rfl
            · have := sameVls_len _ _ hq
              rw [vlsOf_len, vlsOf_len] at this
              exact absurd this hll
          simp only [f48_J2, Bool.not_false, cond_true, h2]
      have hJ1 := hJ _ rfl
      simp only [f48, f48_R, hJ1, cond_true, sameVl]
      generalize decide (k = k2) = b1
      generalize decide (n = n2) = b2
      generalize decide (s = s2) = b3
      generalize decide (r = r2) = b4
      cases b1 <;> cases b2 <;> cases b3 <;> cases b4 <;> simp [f48_J2]
  · cases hv
theorem told48 (nt : Nat) : ∀ m, m ≤ huge → Facts nt 48 (sp48 m)
  | 0, _ => fun args h rs h' hv => by
    unfold sp48 at hv
    split at hv
    · rw [show Nat.blt (szR _) 0 = false from by cases hq : Nat.blt (szR _) 0; rfl; rw [nblt] at hq; omega] at hv; cases hv
    · cases hv
  | m + 1, hm => told48_step (by omega) (told48 nt m (by omega))
end Go.Ev.T
