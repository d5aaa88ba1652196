/- Functions 122, 85 (value: own, Own), decompiled, and what they come to. -/
import Derived.Test.YtljiamlnpmhpmaaF134
set_option linter.unusedVariables false
set_option linter.unusedSimpArgs false
noncomputable section
namespace Go.Ev
theorem upd_mid {α : Type} (x y : α) : ∀ (a b : List α), upd (a ++ x :: b) a.length y = a ++ y :: b
  | [], b => rfl
  | z :: a, b => by simp only [List.cons_append, List.length_cons, upd, upd_mid x y a b]
def ownTg (nt : Nat) (l : List Row) : Nat := bif empty l then 0 else nt
def ownCp (l : List Row) : Cp := bif empty l then ⟨true, true⟩ else ⟨false, false⟩
/-- a value's row, in memory of its own -/
def ownR (nt : Nat) (r : Row) : Row := [.int .u8 (nth .u r 0).toI, .int .i64 (nth .u r 1).toI, .str (nth .u r 2).toS, .ps (ownTg nt (nth .u r 3).toR) 34 (ownCp (nth .u r 3).toR) ((nth .u r 3).toR.attach.map fun ⟨x, hx⟩ => ownR nt x), .int .i64 (nth .u r 4).toI]
termination_by T.szL r
decreasing_by exact Nat.lt_of_lt_of_le (sz_mem hx) (sz_nth r 3)
theorem ownR_eq (nt : Nat) (r : Row) : ownR nt r = [.int .u8 (nth .u r 0).toI, .int .i64 (nth .u r 1).toI, .str (nth .u r 2).toS, .ps (ownTg nt (nth .u r 3).toR) 34 (ownCp (nth .u r 3).toR) ((nth .u r 3).toR.map (ownR nt)), .int .i64 (nth .u r 4).toI] := by
  rw [ownR]; simp
theorem vl_ownR (nt : Nat) : ∀ (m : Nat) (r : Row), T.szL r < m → vlOf (ownR nt r) = vlOf r
  | 0, r, h => by omega
  | m + 1, r, h => by
    rw [vlOf_eq, vlOf_eq r, ownR_eq]
    simp only [nth_zero, nth_1, nth_2, nth_3, nth_4, toI_int, toS_str, toR_ps, vlsOf, List.map_map]
    congr 1
    refine List.map_congr_left fun x hx => ?_
    have := sz_mem hx
    have := sz_nth r 3
    exact vl_ownR nt m x (by omega)
theorem vls_own (nt : Nat) (l : List Row) : vlsOf (l.map (ownR nt)) = vlsOf l := by
  simp only [vlsOf, List.map_map]
  exact List.map_congr_left fun x _ => vl_ownR nt _ x (Nat.lt_succ_self _)
theorem sz_two (r : Row) : (nth .u r 2).toS.length + T.szR (nth .u r 3).toR ≤ T.szL r := by
  have hS : ∀ v : AV, v.toS.length ≤ T.sz v := fun v => by cases v <;> simp [AV.toS, T.sz]
  match r with
  | [] => simp [nth, AV.toS, AV.toR, T.szR]
  | [a] => simp [nth, AV.toS, AV.toR, T.szR]
  | [a, b] => simp [nth, AV.toS, AV.toR, T.szR]
  | [a, b, c] => simp only [nth, T.szL]; have := hS c; simp [AV.toR, T.szR]; omega
  | a :: b :: c :: d :: r => simp only [nth, T.szL]; have := hS c; have := sz_toR' d; omega
theorem sz_ownR (nt : Nat) : ∀ (m : Nat) (r : Row), T.szL r < m → T.szL (ownR nt r) ≤ 6 * T.szL r + 5
  | 0, r, h => by omega
  | m + 1, r, h => by
    have hl : ∀ l : List Row, T.szR l ≤ T.szL r → T.szR (l.map (ownR nt)) ≤ 6 * T.szR l := by
      intro l
      induction l with
      | nil => intro _; simp [T.szR]
      | cons x xs ih =>
        intro hx
        simp only [T.szR] at hx
        simp only [List.map_cons, T.szR]
        have := sz_ownR nt m x (by omega)
        have := ih (by omega)
        omega
    have h2 := sz_two r
    have h3 := hl (nth .u r 3).toR (sz_nth r 3)
    rw [ownR_eq]
    simp only [T.szL, T.sz]
    omega
theorem szR_own (nt : Nat) : ∀ (l : List Row), T.szR (l.map (ownR nt)) ≤ 6 * T.szR l
  | [] => by simp [T.szR]
  | x :: xs => by
    simp only [List.map_cons, T.szR]
    have := sz_ownR nt _ x (Nat.lt_succ_self _)
    have := szR_own nt xs
    omega
end Go.Ev
namespace Go.Ev.T
open Go Go.Ev Go.Proofs
def big2 : Nat := 1073741824
def f122_6_S (a0 : Int) (a1 : Int) (a2 : List UInt8) (a3T : Nat) (a3C : Cp) (a3 : List Row) (a4 : Int) (i12 : Int) (l13 : List Row) : St := St.mk [AV.u, AV.ptr 0 0 0 0, AV.ptr 1 0 0 0, AV.own 2 0, AV.u, AV.u, AV.u, AV.u, AV.u, AV.u, AV.u, AV.u, AV.u, AV.u, AV.u, AV.u, AV.u, AV.ps a3T 34 a3C a3, AV.int IntKind.i64 (↑(List.length a3) : Int), AV.int IntKind.i64 i12, AV.u, AV.u, AV.u, AV.u, AV.u, AV.u, AV.u, AV.u, AV.u, AV.u, AV.u, AV.u, AV.u] [AObj.box 34 [AV.int IntKind.u8 a0, AV.int IntKind.i64 a1, AV.str a2, AV.ps a3T 34 a3C a3, AV.int IntKind.i64 a4], AObj.box 34 [AV.int IntKind.u8 0, AV.int IntKind.i64 0, AV.str [], AV.ps 0 34 (Cp.mk true true) [], AV.int IntKind.i64 0], AObj.arr 34 l13 (Cp.mk false (decide ((↑(List.length a3) : Int) = (↑(List.length a3) : Int)))) 0 0]
def f122_6_X0 (a0 : Int) (a1 : Int) (a2 : List UInt8) (a3T : Nat) (a3C : Cp) (a3 : List Row) (a4 : Int) (l13 : List Row) : St := St.mk [AV.u, AV.ptr 0 0 0 0, AV.ptr 1 0 0 0, AV.own 2 0, AV.u, AV.u, AV.u, AV.u, AV.u, AV.u, AV.u, AV.u, AV.u, AV.u, AV.u, AV.u, AV.u, AV.u, AV.u, AV.u, AV.u, AV.u, AV.u, AV.u, AV.u, AV.u, AV.u, AV.u, AV.u, AV.u, AV.u, AV.u, AV.u] [AObj.box 34 [AV.int IntKind.u8 a0, AV.int IntKind.i64 a1, AV.str a2, AV.ps a3T 34 a3C a3, AV.int IntKind.i64 a4], AObj.box 34 [AV.int IntKind.u8 0, AV.int IntKind.i64 0, AV.str [], AV.ps 0 34 (Cp.mk true true) [], AV.int IntKind.i64 0], AObj.arr 34 l13 (Cp.mk false (decide ((↑(List.length a3) : Int) = (↑(List.length a3) : Int)))) 0 0]
def f122_6 {ρ : Type} (nt : Nat) (X : Call') (n : Nat) (kN : Int → List Row → Option ρ) (x0 : List Row → Option ρ) (a3 : List Row) (i12 : Int) (l13 : List Row) : Option ρ :=
  (bif decide (i12 < (↑(List.length a3) : Int)) then (bif decide (0 ≤ i12) && decide (i12 < (↑(List.length a3) : Int)) then ((X 122 [AV.agg [AV.int IntKind.u8 (AV.toI (nth AV.u (nth [] a3 (Int.toNat i12)) 0)), AV.int IntKind.i64 (AV.toI (nth AV.u (nth [] a3 (Int.toNat i12)) 1)), AV.str (AV.toS (nth AV.u (nth [] a3 (Int.toNat i12)) 2)), AV.ps (AV.toTg (nth AV.u (nth [] a3 (Int.toNat i12)) 3)) 34 (AV.toCp (nth AV.u (nth [] a3 (Int.toNat i12)) 3)) (AV.toR (nth AV.u (nth [] a3 (Int.toNat i12)) 3)), AV.int IntKind.i64 (AV.toI (nth AV.u (nth [] a3 (Int.toNat i12)) 4))]] []).bind fun r14 => (bif decide (0 ≤ i12) && decide (i12 < (↑(List.length l13) : Int)) then kN (IntKind.wrap IntKind.i64 (i12 + 1)) (upd l13 (Int.toNat i12) [AV.int IntKind.u8 (AV.toI (nth AV.u (AV.toCells (nth AV.u (Prod.fst r14) 0)) 0)), AV.int IntKind.i64 (AV.toI (nth AV.u (AV.toCells (nth AV.u (Prod.fst r14) 0)) 1)), AV.str (AV.toS (nth AV.u (AV.toCells (nth AV.u (Prod.fst r14) 0)) 2)), AV.ps (AV.toTg (nth AV.u (AV.toCells (nth AV.u (Prod.fst r14) 0)) 3)) 34 (AV.toCp (nth AV.u (AV.toCells (nth AV.u (Prod.fst r14) 0)) 3)) (AV.toR (nth AV.u (AV.toCells (nth AV.u (Prod.fst r14) 0)) 3)), AV.int IntKind.i64 (AV.toI (nth AV.u (AV.toCells (nth AV.u (Prod.fst r14) 0)) 4))]) else none)) else none) else x0 l13)
theorem f122_6_q {ρ : Type} (nt : Nat) (X : Call') (n : Nat) (kN : St → Option ρ) (kX : Nat → St → Option ρ) (kR : St → Option ρ) (a0 : Int) (a1 : Int) (a2 : List UInt8) (a3T : Nat) (a3C : Cp) (a3 : List Row) (a4 : Int) (i12 : Int) (l13 : List Row) : stepL ⟨L, F, nt, X⟩ ⟨0, lookV V 122⟩ n (subc (bodyOf Try.f122) [1, 1, 1, 0, 1, 0, 0]) (look (lookV V 122) 6).xl kX kR (fun s => kN ((clean 0 3 (look (lookV V 122) 6) []) s)) (f122_6_S a0 a1 a2 a3T a3C a3 a4 i12 l13) = f122_6 nt X n (fun i12 l13 => kN (f122_6_S a0 a1 a2 a3T a3C a3 a4 i12 l13)) (fun l13 => kX 0 (f122_6_X0 a0 a1 a2 a3T a3C a3 a4 l13)) a3 i12 l13 := by kernel_rfl
def f122_6_L {ρ : Type} (nt : Nat) (X : Call') (n : Nat) (x0 : List Row → Option ρ) (a3 : List Row) : Nat → Int → List Row → Option ρ
  | 0, _, _ => none
  | m + 1, i12, l13 => f122_6 nt X n (fun i12 l13 => f122_6_L nt X n x0 a3 m i12 l13) x0 a3 i12 l13
theorem f122_6_e {ρ : Type} (nt : Nat) (X : Call') (n : Nat) (kX : Nat → St → Option ρ) (kR : St → Option ρ) (a0 : Int) (a1 : Int) (a2 : List UInt8) (a3T : Nat) (a3C : Cp) (a3 : List Row) (a4 : Int) (m : Nat) (i12 : Int) (l13 : List Row) : loopN (stepL ⟨L, F, nt, X⟩ ⟨0, lookV V 122⟩ n (subc (bodyOf Try.f122) [1, 1, 1, 0, 1, 0, 0]) (look (lookV V 122) 6).xl kX kR) (clean 0 3 (look (lookV V 122) 6) []) m (f122_6_S a0 a1 a2 a3T a3C a3 a4 i12 l13) = f122_6_L nt X n (fun l13 => kX 0 (f122_6_X0 a0 a1 a2 a3T a3C a3 a4 l13)) a3 m i12 l13 :=
  loopN_ind (α := Int × List Row) (fun w => ((fun i12 l13 => (f122_6_S a0 a1 a2 a3T a3C a3 a4 i12 l13))) w.1 w.2) (fun k w => ((fun i12 l13 => f122_6 nt X n (fun i12 l13 => k (i12, l13)) (fun l13 => kX 0 (f122_6_X0 a0 a1 a2 a3T a3C a3 a4 l13)) a3 i12 l13)) w.1 w.2) (fun m w => ((fun i12 l13 => f122_6_L nt X n (fun l13 => kX 0 (f122_6_X0 a0 a1 a2 a3T a3C a3 a4 l13)) a3 m i12 l13)) w.1 w.2) (fun _ => rfl) (fun _ _ => rfl) (fun kN w => ((fun i12 l13 => f122_6_q nt X n kN kX kR a0 a1 a2 a3T a3C a3 a4 i12 l13)) w.1 w.2) m (i12, l13)
def f122_6_P0 (nt : Nat) (X : Call') (n : Nat) (a0 : Int) (a1 : Int) (a2 : List UInt8) (a4 : Int) (l13 : List Row) : Option (List AV × List AObj) :=
  some (([AV.agg [AV.int IntKind.u8 a0, AV.int IntKind.i64 a1, AV.str a2, AV.ps nt 34 (Cp.mk false false) l13, AV.int IntKind.i64 a4]], []))
theorem f122_6_P0_q (nt : Nat) (X : Call') (n : Nat) (a0 : Int) (a1 : Int) (a2 : List UInt8) (a3T : Nat) (a3C : Cp) (a3 : List Row) (a4 : Int) (l13 : List Row) : (kNf ⟨L, F, nt, X⟩ ⟨0, lookV V 122⟩ n (finish ⟨L, F, nt, X⟩ Try.f122 (sig F 122).res []) (finish ⟨L, F, nt, X⟩ Try.f122 (sig F 122).res []) (fun _ _ => none) [.block 0, .seq (subc (bodyOf Try.f122) [1, 1, 1, 1])]).2 0 (f122_6_X0 a0 a1 a2 a3T a3C a3 a4 l13) = f122_6_P0 nt X n a0 a1 a2 a4 l13 := by kernel_rfl
def f122_R (nt : Nat) (X : Call') (n : Nat) (L0 : Int → List Row → Option (List AV × List AObj)) (a0 : Int) (a1 : Int) (a2 : List UInt8) (a3 : List Row) (a4 : Int) : Option (List AV × List AObj) :=
  (bif decide ((↑(List.length a3) : Int) = 0) then some (([AV.agg [AV.int IntKind.u8 a0, AV.int IntKind.i64 a1, AV.str a2, AV.ps 0 0 (Cp.mk true true) [], AV.int IntKind.i64 a4]], [])) else (bif decide ((↑(List.length a3) : Int) ≤ (↑(List.length a3) : Int)) && decide (64 * (↑(List.length a3) : Int) ≤ 1099511627776) && decide ((↑(List.length a3) : Int) ≤ 1099511627776) then L0  (0) (List.replicate (Int.toNat (↑(List.length a3) : Int)) [AV.int IntKind.u8 0, AV.int IntKind.i64 0, AV.str [], AV.ps 0 34 (Cp.mk true true) [], AV.int IntKind.i64 0]) else none))
def f122 (nt : Nat) (X : Call') (n : Nat) (a0 : Int) (a1 : Int) (a2 : List UInt8) (a3 : List Row) (a4 : Int) : Option (List AV × List AObj) :=
  f122_R nt X n (fun i12 l13 => f122_6_L nt X n (fun l13 => f122_6_P0 nt X n a0 a1 a2 a4 l13) a3 n i12 l13) a0 a1 a2 a3 a4
theorem f122_q (nt : Nat) (X : Call') (n : Nat) (a0 : Int) (a1 : Int) (a2 : List UInt8) (a3T : Nat) (a3C : Cp) (a3 : List Row) (a4 : Int) : evBody ⟨L, F, nt, X⟩ (lookV V 122) n Try.f122 (sig F 122).res [AV.agg [AV.int IntKind.u8 a0, AV.int IntKind.i64 a1, AV.str a2, AV.ps a3T 34 a3C a3, AV.int IntKind.i64 a4]] [] = f122 nt X n a0 a1 a2 a3 a4 :=
  Eq.trans (b := f122_R nt X n (fun i12 l13 => loopN (stepL ⟨L, F, nt, X⟩ ⟨0, lookV V 122⟩ n (subc (bodyOf Try.f122) [1, 1, 1, 0, 1, 0, 0]) (look (lookV V 122) 6).xl (kNf ⟨L, F, nt, X⟩ ⟨0, lookV V 122⟩ n (finish ⟨L, F, nt, X⟩ Try.f122 (sig F 122).res []) (finish ⟨L, F, nt, X⟩ Try.f122 (sig F 122).res []) (fun _ _ => none) [.block 0, .seq (subc (bodyOf Try.f122) [1, 1, 1, 1])]).2 (finish ⟨L, F, nt, X⟩ Try.f122 (sig F 122).res [])) (clean 0 3 (look (lookV V 122) 6) []) n (f122_6_S a0 a1 a2 a3T a3C a3 a4 i12 l13)) a0 a1 a2 a3 a4) (by kernel_rfl) (congrArg (fun q => q a0 a1 a2 a3 a4) (congrArg (f122_R nt X n ) (show (fun i12 l13 => loopN (stepL ⟨L, F, nt, X⟩ ⟨0, lookV V 122⟩ n (subc (bodyOf Try.f122) [1, 1, 1, 0, 1, 0, 0]) (look (lookV V 122) 6).xl (kNf ⟨L, F, nt, X⟩ ⟨0, lookV V 122⟩ n (finish ⟨L, F, nt, X⟩ Try.f122 (sig F 122).res []) (finish ⟨L, F, nt, X⟩ Try.f122 (sig F 122).res []) (fun _ _ => none) [.block 0, .seq (subc (bodyOf Try.f122) [1, 1, 1, 1])]).2 (finish ⟨L, F, nt, X⟩ Try.f122 (sig F 122).res [])) (clean 0 3 (look (lookV V 122) 6) []) n (f122_6_S a0 a1 a2 a3T a3C a3 a4 i12 l13)) = _ from funext fun i12 => funext fun l13 => (f122_6_e nt X n (kNf ⟨L, F, nt, X⟩ ⟨0, lookV V 122⟩ n (finish ⟨L, F, nt, X⟩ Try.f122 (sig F 122).res []) (finish ⟨L, F, nt, X⟩ Try.f122 (sig F 122).res []) (fun _ _ => none) [.block 0, .seq (subc (bodyOf Try.f122) [1, 1, 1, 1])]).2 (finish ⟨L, F, nt, X⟩ Try.f122 (sig F 122).res []) a0 a1 a2 a3T a3C a3 a4 n i12 l13).trans (congrArg (fun q => q a3 n i12 l13) (congrArg (f122_6_L nt X n) (show (fun l13 => (kNf ⟨L, F, nt, X⟩ ⟨0, lookV V 122⟩ n (finish ⟨L, F, nt, X⟩ Try.f122 (sig F 122).res []) (finish ⟨L, F, nt, X⟩ Try.f122 (sig F 122).res []) (fun _ _ => none) [.block 0, .seq (subc (bodyOf Try.f122) [1, 1, 1, 1])]).2 0 (f122_6_X0 a0 a1 a2 a3T a3C a3 a4 l13)) = (fun l13 => f122_6_P0 nt X n a0 a1 a2 a4 l13) from funext fun l13 => (f122_6_P0_q nt X n a0 a1 a2 a3T a3C a3 a4 l13)))))))

def f85 (nt : Nat) (X : Call') (n : Nat) (a0 : Int) (a1 : Int) (a2 : List UInt8) (a3T : Nat) (a3C : Cp) (a3 : List Row) (a4 : Int) : Option (List AV × List AObj) :=
  ((X 64 [AV.agg [AV.int IntKind.u8 a0, AV.int IntKind.i64 a1, AV.str a2, AV.ps a3T 34 a3C a3, AV.int IntKind.i64 a4]] []).bind fun r11 => (bif !AV.toB (nth AV.u (AV.toCells (nth AV.u (Prod.fst r11) 0)) 0) then some (([AV.agg [AV.int IntKind.u8 0, AV.int IntKind.i64 0, AV.str [], AV.ps 0 34 (Cp.mk true true) [], AV.int IntKind.i64 0], AV.int IntKind.i64 2], [])) else ((X 122 [AV.agg [AV.int IntKind.u8 a0, AV.int IntKind.i64 a1, AV.str a2, AV.ps a3T 34 a3C a3, AV.int IntKind.i64 a4]] []).bind fun r12 => some (([AV.agg [AV.int IntKind.u8 (AV.toI (nth AV.u (AV.toCells (nth AV.u (Prod.fst r12) 0)) 0)), AV.int IntKind.i64 (AV.toI (nth AV.u (AV.toCells (nth AV.u (Prod.fst r12) 0)) 1)), AV.str (AV.toS (nth AV.u (AV.toCells (nth AV.u (Prod.fst r12) 0)) 2)), AV.ps (AV.toTg (nth AV.u (AV.toCells (nth AV.u (Prod.fst r12) 0)) 3)) 34 (AV.toCp (nth AV.u (AV.toCells (nth AV.u (Prod.fst r12) 0)) 3)) (AV.toR (nth AV.u (AV.toCells (nth AV.u (Prod.fst r12) 0)) 3)), AV.int IntKind.i64 (AV.toI (nth AV.u (AV.toCells (nth AV.u (Prod.fst r12) 0)) 4))], AV.int IntKind.i64 0], [])))))
theorem f85_q (nt : Nat) (X : Call') (n : Nat) (a0 : Int) (a1 : Int) (a2 : List UInt8) (a3T : Nat) (a3C : Cp) (a3 : List Row) (a4 : Int) : evBody ⟨L, F, nt, X⟩ (lookV V 85) n Try.f85 (sig F 85).res [AV.agg [AV.int IntKind.u8 a0, AV.int IntKind.i64 a1, AV.str a2, AV.ps a3T 34 a3C a3, AV.int IntKind.i64 a4]] [] = f85 nt X n a0 a1 a2 a3T a3C a3 a4 := by kernel_rfl


def ownA (nt : Nat) (l : List Row) : AV := bif empty l then .ps 0 0 ⟨true, true⟩ [] else .ps nt 34 ⟨false, false⟩ (l.map (ownR nt))
theorem ownA_tg (nt : Nat) (l : List Row) : (ownA nt l).toTg = ownTg nt l := by cases l <;> rfl
theorem ownA_cp (nt : Nat) (l : List Row) : (ownA nt l).toCp = ownCp l := by cases l <;> rfl
theorem ownA_r (nt : Nat) (l : List Row) : (ownA nt l).toR = l.map (ownR nt) := by cases l <;> rfl
def sp122 (nt m : Nat) : Sp
  | [.agg [.int .u8 k, .int .i64 n, .str s, .ps _ 34 _ l, .int .i64 r]], [] => bif Nat.blt (szR l) m then some ([.agg [.int .u8 k, .int .i64 n, .str s, ownA nt l, .int .i64 r]], []) else none
  | _, _ => none
def z34 : Row := [.int .u8 0, .int .i64 0, .str [], .ps 0 34 ⟨true, true⟩ [], .int .i64 0]
theorem f122_loop {nt m n : Nat} {h122 : Facts nt 122 (sp122 nt m)} {l : List Row} (hm : m < big2) (hl : szR l < m + 1) (x0 : List Row → Option (List AV × List AObj)) : ∀ (fu j : Nat), j ≤ l.length → l.length - j < fu →
    f122_6_L nt (tab [⟨122, sp122 nt m, h122⟩]) n x0 l fu j ((l.take j).map (ownR nt) ++ List.replicate (l.length - j) z34) = x0 (l.map (ownR nt))
  | 0, j, h1, h2 => by omega
  | fu + 1, j, h1, h2 => by
    have hlen : l.length ≤ szR l := szR_len l
    by_cases hk : j < l.length
    · have hmm := nth_mem (d := []) hk
      have hs := sz_mem hmm
      have s3 := sz_nth (nth [] l j) 3
      have h3 : decide ((j : Int) < (l.length : Int)) = true := by simp only [decide_eq_true_eq]; omega
      have h4 : decide ((0 : Int) ≤ (j : Int)) = true := by simp only [decide_eq_true_eq]; omega
      have hw := wrap_i64_nat (k := j) (by unfold big2 at hm; omega)
      have hg : Nat.blt (szR (nth .u (nth [] l j) 3).toR) m = true := by rw [nblt]; omega
      have e : tab [⟨122, sp122 nt m, h122⟩] 122 [.agg [.int .u8 (nth .u (nth [] l j) 0).toI, .int .i64 (nth .u (nth [] l j) 1).toI, .str (nth .u (nth [] l j) 2).toS, .ps (nth .u (nth [] l j) 3).toTg 34 (nth .u (nth [] l j) 3).toCp (nth .u (nth [] l j) 3).toR, .int .i64 (nth .u (nth [] l j) 4).toI]] [] = some ([.agg [.int .u8 (nth .u (nth [] l j) 0).toI, .int .i64 (nth .u (nth [] l j) 1).toI, .str (nth .u (nth [] l j) 2).toS, ownA nt (nth .u (nth [] l j) 3).toR, .int .i64 (nth .u (nth [] l j) 4).toI]], []) := by
        rw [tab_hit]; simp only [sp122, hg, cond_true]
      have ih := f122_loop (nt := nt) (n := n) (h122 := h122) hm hl x0 fu (j + 1) (by omega) (by omega)
      have hlen13 : ((l.take j).map (ownR nt) ++ List.replicate (l.length - j) z34).length = l.length := by simp; omega
      have hupd : upd ((l.take j).map (ownR nt) ++ List.replicate (l.length - j) z34) j (ownR nt (nth [] l j)) = (l.take (j + 1)).map (ownR nt) ++ List.replicate (l.length - (j + 1)) z34 := by
        have hj : j = ((l.take j).map (ownR nt)).length := by simp; omega
        rw [show l.length - j = (l.length - (j + 1)) + 1 by omega, List.replicate_succ]
        have := upd_mid z34 (ownR nt (nth [] l j)) ((l.take j).map (ownR nt)) (List.replicate (l.length - (j + 1)) z34)
        rw [← hj] at this
        rw [this, List.take_succ_eq_append_getElem hk, List.map_append, nth_get hk]
        simp
      rw [ownR_eq] at hupd
      simp only [f122_6_L, f122_6, h3, h4, hlen13, Bool.and_self, cond_true, Int.toNat_natCast, e, Option.bind_some, toI_int, toS_str, toCells_agg, nth_zero, nth_1, nth_2, nth_3, nth_4, ownA_tg, ownA_cp, ownA_r, hw, hupd, ih]
    · obtain rfl : j = l.length := by omega
      have h3 : decide (((l.length : Nat) : Int) < (l.length : Int)) = false := by simp
      simp only [f122_6_L, f122_6, h3, cond_false, List.take_length, Nat.sub_self, List.replicate_zero, List.append_nil]
theorem told122_step {nt m : Nat} (hm : m < big2) (h122 : Facts nt 122 (sp122 nt m)) : Facts nt 122 (sp122 nt (m + 1)) := fun args h rs h' hv => by
  unfold sp122 at hv
  split at hv
  · rename_i k n s t c l r
    cases hb : Nat.blt (szR l) (m + 1)
    · rw [hb] at hv; cases hv
    · rw [hb] at hv
      rw [nblt] at hb
      have hlen : l.length ≤ szR l := szR_len l
      refine fact_tab Try.func122 [⟨122, sp122 nt m, h122⟩] (l.length + 1) ?_
      have hl := f122_loop (nt := nt) (n := l.length + 1) (h122 := h122) hm hb (fun l13 => f122_6_P0 nt (tab [⟨122, sp122 nt m, h122⟩]) (l.length + 1) k n s r l13) (l.length + 1) 0 (by omega) (by omega)
      rw [f122_q, ← hv]
      simp only [List.take_zero, List.map_nil, List.nil_append, Nat.sub_zero, Int.natCast_zero, Int.ofNat_zero] at hl
      cases l with
      | nil => rfl
      | cons x xs =>
        have h1 : decide ((((x :: xs).length : Nat) : Int) = 0) = false := by simp; omega
        have h2 : decide ((((x :: xs).length : Nat) : Int) ≤ (((x :: xs).length : Nat) : Int)) = true := by simp
        have h3 : decide ((64 : Int) * (((x :: xs).length : Nat) : Int) ≤ 1099511627776) = true := by simp only [decide_eq_true_eq]; unfold big2 at hm; omega
        have h4 : decide ((((x :: xs).length : Nat) : Int) ≤ 1099511627776) = true := by simp only [decide_eq_true_eq]; unfold big2 at hm; omega
        simp only [f122, f122_R, h1, h2, h3, h4, Bool.and_self, cond_true, cond_false, Int.toNat_natCast]
        exact hl
  · cases hv
theorem told122 (nt : Nat) : ∀ m, m ≤ big2 → Facts nt 122 (sp122 nt m)
  | 0, _ => fun args h rs h' hv => by
    unfold sp122 at hv
    split at hv
    · rw [show Nat.blt (szR _) 0 = false from by cases hq : Nat.blt (szR _) 0; rfl; rw [nblt] at hq; omega] at hv; cases hv
    · cases hv
  | m + 1, hm => told122_step (by omega) (told122 nt m (by omega))
def zero34 : AV := .agg z34
/-- Own's answer -/
def sp85 (nt : Nat) : Sp
  | [.agg [.int .u8 k, .int .i64 n, .str s, .ps _ 34 _ l, .int .i64 r]], [] => bif Nat.blt (szR l) big2 then (bif mayV (.mk k n s (vlsOf l) r) then some ([.agg [.int .u8 k, .int .i64 n, .str s, .ps (ownTg nt l) 34 (ownCp l) (l.map (ownR nt)), .int .i64 r], .int .i64 0], []) else some ([.agg z34, .int .i64 2], [])) else none
  | _, _ => none
theorem told85 (nt : Nat) : Facts nt 85 (sp85 nt) := fun args h rs h' hv => by
  unfold sp85 at hv
  split at hv
  · rename_i k n s t c l r
    cases hb : Nat.blt (szR l) big2
    · rw [hb] at hv; cases hv
    · rw [hb] at hv
      have hb' : Nat.blt (szR l) huge = true := by rw [nblt] at hb ⊢; unfold big2 at hb; unfold huge; omega
      refine fact_tab Try.func85 [⟨64, sp64, told64 nt⟩, ⟨122, sp122 nt big2, told122 nt big2 (Nat.le_refl _)⟩] 1 ?_
      have e1 : tab [⟨64, sp64, told64 nt⟩, ⟨122, sp122 nt big2, told122 nt big2 (Nat.le_refl _)⟩] 64 [.agg [.int .u8 k, .int .i64 n, .str s, .ps t 34 c l, .int .i64 r]] [] = some ([.bool (mayV (.mk k n s (vlsOf l) r))], []) := by
        rw [tab_hit]; simp only [sp64, hb', cond_true]
      have e2 : tab [⟨64, sp64, told64 nt⟩, ⟨122, sp122 nt big2, told122 nt big2 (Nat.le_refl _)⟩] 122 [.agg [.int .u8 k, .int .i64 n, .str s, .ps t 34 c l, .int .i64 r]] [] = some ([.agg [.int .u8 k, .int .i64 n, .str s, ownA nt l, .int .i64 r]], []) := by
        rw [tab_miss rfl, tab_hit]; simp only [sp122, hb, cond_true]
      rw [f85_q, ← hv]
      simp only [f85, e1, e2, Option.bind_some, toI_int, toB_bool, toS_str, toCells_bool, toCells_agg, nth_zero, nth_1, nth_2, nth_3, nth_4, ownA_tg, ownA_cp, ownA_r, cond_true]
      cases mayV (.mk k n s (vlsOf l) r) <;> rfl
  · cases hv
end Go.Ev.T
