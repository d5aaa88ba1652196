/- Functions 123, 87 (a name that may not be), 86 (twice), 145, 155, 140 (abilities), decompiled, and what they come to. -/
import Derived.Test.YtljiamlnpmhpmaaF21
set_option linter.unusedVariables false
set_option linter.unusedSimpArgs false
noncomputable section
namespace Go.Ev
def strsOf (l : List Row) : List (List UInt8) := l.map fun r => (nth .u r 0).toS
/-- the place of the first one that may not be a name -/
def nameIx : List (List UInt8) → Int → Int
  | [], _ => -1
  | s :: ss, i => bif mayName s then nameIx ss (i + 1) else i
theorem nameIx_ok : ∀ (ss : List (List UInt8)) (i : Int), 0 ≤ i → decide (0 ≤ nameIx ss i) = !ss.all mayName
  | [], i, hi => by simp [nameIx]
  | s :: ss, i, hi => by
    by_cases hs : mayName s = true
    · simp only [nameIx, List.all_cons, hs, cond_true, Bool.true_and]; exact nameIx_ok ss (i + 1) (by omega)
    · rw [Bool.not_eq_true] at hs
      simp [nameIx, hs, hi]
/-- how often a text was met -/
def met (s : List UInt8) (m : List (AV × AV)) : Int := (nth .u (orZ (.int .i64 0) (mpGet (.str s) m)).toCells 0).toI
def meet (s : List UInt8) (m : List (AV × AV)) : List (AV × AV) := mpSet (.str s) (.int .i64 (IntKind.wrap .i64 (met s m + 1))) m
def twGo : List (List UInt8) → List (AV × AV) → Bool
  | [], _ => false
  | s :: ss, m => bif decide (1 < met s (meet s m)) then true else twGo ss (meet s m)
def twice (ss : List (List UInt8)) : Bool := twGo ss []
end Go.Ev
namespace Go.Ev.T
open Go Go.Ev Go.Proofs
def f123b_2_S (aT : Nat) (aC : Cp) (a : List Row) (i8 : Int) : St := St.mk [AV.ps aT 9 aC a, AV.func (some 156) [], AV.u, AV.u, AV.u, AV.u, AV.u, AV.int IntKind.i64 (↑(List.length a) : Int), AV.int IntKind.i64 i8, AV.u, AV.u, AV.u, AV.u, AV.u, AV.u, AV.u, AV.u, AV.u, AV.u] []
def f123b_2_X0  : St := St.mk [AV.u, AV.u, AV.u, AV.u, AV.u, AV.u, AV.u, AV.u, AV.u, AV.u, AV.u, AV.u, AV.u, AV.u, AV.u, AV.u, AV.u, AV.u, AV.u] []
def f123b_2_X1 (i8 : Int) : St := St.mk [AV.u, AV.u, AV.u, AV.u, AV.int IntKind.i64 i8, AV.u, AV.u, AV.u, AV.u, AV.u, AV.u, AV.u, AV.u, AV.u, AV.u, AV.u, AV.u, AV.u, AV.u] []
def f123b_2 {ρ : Type} (nt : Nat) (X : Call') (n : Nat) (kN : Int → Option ρ) (x1 : Int → Option ρ) (x0 : Option ρ) (a : List Row) (i8 : Int) : Option ρ :=
  (bif decide (i8 < (↑(List.length a) : Int)) then (bif decide (0 ≤ i8) && decide (i8 < (↑(List.length a) : Int)) then ((X 156 [AV.str (AV.toS (nth AV.u (nth [] a (Int.toNat i8)) 0))] []).bind fun r9 => (bif AV.toB (nth AV.u (AV.toCells (nth AV.u (Prod.fst r9) 0)) 0) then x1 i8 else kN (IntKind.wrap IntKind.i64 (i8 + 1)))) else none) else x0 )
theorem f123b_2_q {ρ : Type} (nt : Nat) (X : Call') (n : Nat) (kN : St → Option ρ) (kX : Nat → St → Option ρ) (kR : St → Option ρ) (aT : Nat) (aC : Cp) (a : List Row) (i8 : Int) : stepL ⟨L, F, nt, X⟩ ⟨0, lookV V 123⟩ n (subc (bodyOf Try.f123) [1, 0, 1, 0, 0]) (look (lookV V 123) 2).xl kX kR (fun s => kN ((clean 0 0 (look (lookV V 123) 2) []) s)) (f123b_2_S aT aC a i8) = f123b_2 nt X n (fun i8 => kN (f123b_2_S aT aC a i8)) (fun i8 => kR (f123b_2_X1 i8)) (kX 0 (f123b_2_X0 )) a i8 := by kernel_rfl
def f123b_2_L {ρ : Type} (nt : Nat) (X : Call') (n : Nat) (x0 : Option ρ) (x1 : Int → Option ρ) (a : List Row) : Nat → Int → Option ρ
  | 0, _ => none
  | m + 1, i8 => f123b_2 nt X n (fun i8 => f123b_2_L nt X n x0 x1 a m i8) x1 x0 a i8
theorem f123b_2_e {ρ : Type} (nt : Nat) (X : Call') (n : Nat) (kX : Nat → St → Option ρ) (kR : St → Option ρ) (aT : Nat) (aC : Cp) (a : List Row) (m : Nat) (i8 : Int) : loopN (stepL ⟨L, F, nt, X⟩ ⟨0, lookV V 123⟩ n (subc (bodyOf Try.f123) [1, 0, 1, 0, 0]) (look (lookV V 123) 2).xl kX kR) (clean 0 0 (look (lookV V 123) 2) []) m (f123b_2_S aT aC a i8) = f123b_2_L nt X n (kX 0 (f123b_2_X0 )) (fun i8 => kR (f123b_2_X1 i8)) a m i8 :=
  loopN_ind (α := Int) (fun w => ((fun i8 => (f123b_2_S aT aC a i8))) w) (fun k w => ((fun i8 => f123b_2 nt X n (fun i8 => k (i8)) (fun i8 => kR (f123b_2_X1 i8)) (kX 0 (f123b_2_X0 )) a i8)) w) (fun m w => ((fun i8 => f123b_2_L nt X n (kX 0 (f123b_2_X0 )) (fun i8 => kR (f123b_2_X1 i8)) a m i8)) w) (fun _ => rfl) (fun _ _ => rfl) (fun kN w => ((fun i8 => f123b_2_q nt X n kN kX kR aT aC a i8)) w) m (i8)
def f123b_2_P0 (nt : Nat) (X : Call') (n : Nat)  : Option (List AV × List AObj) :=
  some (([AV.int IntKind.i64 (-1)], []))
theorem f123b_2_P0_q (nt : Nat) (X : Call') (n : Nat)  : (kNf ⟨L, F, nt, X⟩ ⟨0, lookV V 123⟩ n (finish ⟨L, F, nt, X⟩ Try.f123 (sig F 123).res []) (finish ⟨L, F, nt, X⟩ Try.f123 (sig F 123).res []) (fun _ _ => none) [.block 0, .seq (subc (bodyOf Try.f123) [1, 1])]).2 0 (f123b_2_X0 ) = f123b_2_P0 nt X n  := by kernel_rfl
def f123b_2_P1 (nt : Nat) (X : Call') (n : Nat) (i8 : Int) : Option (List AV × List AObj) :=
  some (([AV.int IntKind.i64 i8], []))
theorem f123b_2_P1_q (nt : Nat) (X : Call') (n : Nat) (i8 : Int) : (finish ⟨L, F, nt, X⟩ Try.f123 (sig F 123).res []) (f123b_2_X1 i8) = f123b_2_P1 nt X n i8 := by kernel_rfl
def f123b_R (nt : Nat) (X : Call') (n : Nat) (L0 : Int → Option (List AV × List AObj))  : Option (List AV × List AObj) :=
  L0  (0)
def f123b (nt : Nat) (X : Call') (n : Nat) (a : List Row) : Option (List AV × List AObj) :=
  f123b_R nt X n (fun i8 => f123b_2_L nt X n (f123b_2_P0 nt X n ) (fun i8 => f123b_2_P1 nt X n i8) a n i8) 
theorem f123b_q (nt : Nat) (X : Call') (n : Nat) (aT : Nat) (aC : Cp) (a : List Row) : evBody ⟨L, F, nt, X⟩ (lookV V 123) n Try.f123 (sig F 123).res [AV.ps aT 9 aC a, AV.func (some 156) []] [] = f123b nt X n a :=
  Eq.trans (b := f123b_R nt X n (fun i8 => loopN (stepL ⟨L, F, nt, X⟩ ⟨0, lookV V 123⟩ n (subc (bodyOf Try.f123) [1, 0, 1, 0, 0]) (look (lookV V 123) 2).xl (kNf ⟨L, F, nt, X⟩ ⟨0, lookV V 123⟩ n (finish ⟨L, F, nt, X⟩ Try.f123 (sig F 123).res []) (finish ⟨L, F, nt, X⟩ Try.f123 (sig F 123).res []) (fun _ _ => none) [.block 0, .seq (subc (bodyOf Try.f123) [1, 1])]).2 (finish ⟨L, F, nt, X⟩ Try.f123 (sig F 123).res [])) (clean 0 0 (look (lookV V 123) 2) []) n (f123b_2_S aT aC a i8)) ) (by kernel_rfl) (congrArg (fun q => q ) (congrArg (f123b_R nt X n ) (show (fun i8 => loopN (stepL ⟨L, F, nt, X⟩ ⟨0, lookV V 123⟩ n (subc (bodyOf Try.f123) [1, 0, 1, 0, 0]) (look (lookV V 123) 2).xl (kNf ⟨L, F, nt, X⟩ ⟨0, lookV V 123⟩ n (finish ⟨L, F, nt, X⟩ Try.f123 (sig F 123).res []) (finish ⟨L, F, nt, X⟩ Try.f123 (sig F 123).res []) (fun _ _ => none) [.block 0, .seq (subc (bodyOf Try.f123) [1, 1])]).2 (finish ⟨L, F, nt, X⟩ Try.f123 (sig F 123).res [])) (clean 0 0 (look (lookV V 123) 2) []) n (f123b_2_S aT aC a i8)) = _ from funext fun i8 => (f123b_2_e nt X n (kNf ⟨L, F, nt, X⟩ ⟨0, lookV V 123⟩ n (finish ⟨L, F, nt, X⟩ Try.f123 (sig F 123).res []) (finish ⟨L, F, nt, X⟩ Try.f123 (sig F 123).res []) (fun _ _ => none) [.block 0, .seq (subc (bodyOf Try.f123) [1, 1])]).2 (finish ⟨L, F, nt, X⟩ Try.f123 (sig F 123).res []) aT aC a n i8).trans (congrArg (fun q => q a n i8) (congr (congrArg (f123b_2_L nt X n) (show ((kNf ⟨L, F, nt, X⟩ ⟨0, lookV V 123⟩ n (finish ⟨L, F, nt, X⟩ Try.f123 (sig F 123).res []) (finish ⟨L, F, nt, X⟩ Try.f123 (sig F 123).res []) (fun _ _ => none) [.block 0, .seq (subc (bodyOf Try.f123) [1, 1])]).2 0 (f123b_2_X0 )) = (f123b_2_P0 nt X n ) from (f123b_2_P0_q nt X n ))) (show (fun i8 => (finish ⟨L, F, nt, X⟩ Try.f123 (sig F 123).res []) (f123b_2_X1 i8)) = (fun i8 => f123b_2_P1 nt X n i8) from funext fun i8 => (f123b_2_P1_q nt X n i8)))))))
def f87b (nt : Nat) (X : Call') (n : Nat) (aT : Nat) (aC : Cp) (a : List Row) : Option (List AV × List AObj) :=
  ((X 123 [AV.ps aT 9 aC a, AV.func (some 156) []] []).bind fun r7 => some (([AV.bool (decide (0 ≤ AV.toI (nth AV.u (AV.toCells (nth AV.u (Prod.fst r7) 0)) 0)))], [])))
theorem f87b_q (nt : Nat) (X : Call') (n : Nat) (aT : Nat) (aC : Cp) (a : List Row) : evBody ⟨L, F, nt, X⟩ (lookV V 87) n Try.f87 (sig F 87).res [AV.ps aT 9 aC a, AV.func (some 156) []] [] = f87b nt X n aT aC a := by kernel_rfl
def f86_3_S (aT : Nat) (aC : Cp) (a : List Row) (i7 : Int) (v8 : List (AV × AV)) : St := St.mk [AV.u, AV.u, AV.u, AV.map 0, AV.u, AV.u, AV.u, AV.ps aT 9 aC a, AV.int IntKind.i64 (↑(List.length a) : Int), AV.int IntKind.i64 i7, AV.u, AV.u, AV.u, AV.u, AV.u, AV.u, AV.u, AV.u, AV.u, AV.u, AV.u, AV.u] [AObj.mp 119 v8]
def f86_3_X0 (v8 : List (AV × AV)) : St := St.mk [AV.u, AV.u, AV.u, AV.u, AV.u, AV.u, AV.u, AV.u, AV.u, AV.u, AV.u, AV.u, AV.u, AV.u, AV.u, AV.u, AV.u, AV.u, AV.u, AV.u, AV.u, AV.u] [AObj.mp 119 v8]
def f86_3_X1 (a : List Row) (i7 : Int) (v8 : List (AV × AV)) : St := St.mk [AV.u, AV.u, AV.bool true, AV.u, AV.u, AV.u, AV.u, AV.u, AV.u, AV.u, AV.u, AV.u, AV.u, AV.u, AV.u, AV.u, AV.u, AV.u, AV.u, AV.u, AV.u, AV.u] [AObj.mp 119 (mpSet (AV.str (AV.toS (nth AV.u (nth [] a (Int.toNat i7)) 0))) (AV.int IntKind.i64 (IntKind.wrap IntKind.i64 (AV.toI (nth AV.u (AV.toCells (orZ (AV.int IntKind.i64 0) (mpGet (AV.str (AV.toS (nth AV.u (nth [] a (Int.toNat i7)) 0))) v8))) 0) + 1))) v8)]
def f86_3 {ρ : Type} (nt : Nat) (X : Call') (n : Nat) (kN : Int → List (AV × AV) → Option ρ) (x1 : Int → List (AV × AV) → Option ρ) (x0 : List (AV × AV) → Option ρ) (a : List Row) (i7 : Int) (v8 : List (AV × AV)) : Option ρ :=
  (bif decide (i7 < (↑(List.length a) : Int)) then (bif decide (0 ≤ i7) && decide (i7 < (↑(List.length a) : Int)) then (bif decide (1 < AV.toI (nth AV.u (AV.toCells (orZ (AV.int IntKind.i64 0) (mpGet (AV.str (AV.toS (nth AV.u (nth [] a (Int.toNat i7)) 0))) (mpSet (AV.str (AV.toS (nth AV.u (nth [] a (Int.toNat i7)) 0))) (AV.int IntKind.i64 (IntKind.wrap IntKind.i64 (AV.toI (nth AV.u (AV.toCells (orZ (AV.int IntKind.i64 0) (mpGet (AV.str (AV.toS (nth AV.u (nth [] a (Int.toNat i7)) 0))) v8))) 0) + 1))) v8)))) 0)) then x1 i7 v8 else kN (IntKind.wrap IntKind.i64 (i7 + 1)) (mpSet (AV.str (AV.toS (nth AV.u (nth [] a (Int.toNat i7)) 0))) (AV.int IntKind.i64 (IntKind.wrap IntKind.i64 (AV.toI (nth AV.u (AV.toCells (orZ (AV.int IntKind.i64 0) (mpGet (AV.str (AV.toS (nth AV.u (nth [] a (Int.toNat i7)) 0))) v8))) 0) + 1))) v8)) else none) else x0 v8)
theorem f86_3_q {ρ : Type} (nt : Nat) (X : Call') (n : Nat) (kN : St → Option ρ) (kX : Nat → St → Option ρ) (kR : St → Option ρ) (aT : Nat) (aC : Cp) (a : List Row) (i7 : Int) (v8 : List (AV × AV)) : stepL ⟨L, F, nt, X⟩ ⟨0, lookV V 86⟩ n (subc (bodyOf Try.f86) [1, 1, 0, 1, 0, 0]) (look (lookV V 86) 3).xl kX kR (fun s => kN ((clean 0 1 (look (lookV V 86) 3) []) s)) (f86_3_S aT aC a i7 v8) = f86_3 nt X n (fun i7 v8 => kN (f86_3_S aT aC a i7 v8)) (fun i7 v8 => kR (f86_3_X1 a i7 v8)) (fun v8 => kX 0 (f86_3_X0 v8)) a i7 v8 := by kernel_rfl
def f86_3_L {ρ : Type} (nt : Nat) (X : Call') (n : Nat) (x0 : List (AV × AV) → Option ρ) (x1 : Int → List (AV × AV) → Option ρ) (a : List Row) : Nat → Int → List (AV × AV) → Option ρ
  | 0, _, _ => none
  | m + 1, i7, v8 => f86_3 nt X n (fun i7 v8 => f86_3_L nt X n x0 x1 a m i7 v8) x1 x0 a i7 v8
theorem f86_3_e {ρ : Type} (nt : Nat) (X : Call') (n : Nat) (kX : Nat → St → Option ρ) (kR : St → Option ρ) (aT : Nat) (aC : Cp) (a : List Row) (m : Nat) (i7 : Int) (v8 : List (AV × AV)) : loopN (stepL ⟨L, F, nt, X⟩ ⟨0, lookV V 86⟩ n (subc (bodyOf Try.f86) [1, 1, 0, 1, 0, 0]) (look (lookV V 86) 3).xl kX kR) (clean 0 1 (look (lookV V 86) 3) []) m (f86_3_S aT aC a i7 v8) = f86_3_L nt X n (fun v8 => kX 0 (f86_3_X0 v8)) (fun i7 v8 => kR (f86_3_X1 a i7 v8)) a m i7 v8 :=
  loopN_ind (α := Int × List (AV × AV)) (fun w => ((fun i7 v8 => (f86_3_S aT aC a i7 v8))) w.1 w.2) (fun k w => ((fun i7 v8 => f86_3 nt X n (fun i7 v8 => k (i7, v8)) (fun i7 v8 => kR (f86_3_X1 a i7 v8)) (fun v8 => kX 0 (f86_3_X0 v8)) a i7 v8)) w.1 w.2) (fun m w => ((fun i7 v8 => f86_3_L nt X n (fun v8 => kX 0 (f86_3_X0 v8)) (fun i7 v8 => kR (f86_3_X1 a i7 v8)) a m i7 v8)) w.1 w.2) (fun _ => rfl) (fun _ _ => rfl) (fun kN w => ((fun i7 v8 => f86_3_q nt X n kN kX kR aT aC a i7 v8)) w.1 w.2) m (i7, v8)
def f86_3_P0 (nt : Nat) (X : Call') (n : Nat)  : Option (List AV × List AObj) :=
  some (([AV.bool false], []))
theorem f86_3_P0_q (nt : Nat) (X : Call') (n : Nat) (v8 : List (AV × AV)) : (kNf ⟨L, F, nt, X⟩ ⟨0, lookV V 86⟩ n (finish ⟨L, F, nt, X⟩ Try.f86 (sig F 86).res []) (finish ⟨L, F, nt, X⟩ Try.f86 (sig F 86).res []) (fun _ _ => none) [.block 0, .seq (subc (bodyOf Try.f86) [1, 1, 1])]).2 0 (f86_3_X0 v8) = f86_3_P0 nt X n  := by kernel_rfl
def f86_3_P1 (nt : Nat) (X : Call') (n : Nat)  : Option (List AV × List AObj) :=
  some (([AV.bool true], []))
theorem f86_3_P1_q (nt : Nat) (X : Call') (n : Nat) (a : List Row) (i7 : Int) (v8 : List (AV × AV)) : (finish ⟨L, F, nt, X⟩ Try.f86 (sig F 86).res []) (f86_3_X1 a i7 v8) = f86_3_P1 nt X n  := by kernel_rfl
def f86_R (nt : Nat) (X : Call') (n : Nat) (L0 : Int → List (AV × AV) → Option (List AV × List AObj))  : Option (List AV × List AObj) :=
  L0  (0) ([])
def f86 (nt : Nat) (X : Call') (n : Nat) (a : List Row) : Option (List AV × List AObj) :=
  f86_R nt X n (fun i7 v8 => f86_3_L nt X n (fun v8 => f86_3_P0 nt X n ) (fun i7 v8 => f86_3_P1 nt X n ) a n i7 v8) 
theorem f86_q (nt : Nat) (X : Call') (n : Nat) (aT : Nat) (aC : Cp) (a : List Row) : evBody ⟨L, F, nt, X⟩ (lookV V 86) n Try.f86 (sig F 86).res [AV.ps aT 9 aC a] [] = f86 nt X n a :=
  Eq.trans (b := f86_R nt X n (fun i7 v8 => loopN (stepL ⟨L, F, nt, X⟩ ⟨0, lookV V 86⟩ n (subc (bodyOf Try.f86) [1, 1, 0, 1, 0, 0]) (look (lookV V 86) 3).xl (kNf ⟨L, F, nt, X⟩ ⟨0, lookV V 86⟩ n (finish ⟨L, F, nt, X⟩ Try.f86 (sig F 86).res []) (finish ⟨L, F, nt, X⟩ Try.f86 (sig F 86).res []) (fun _ _ => none) [.block 0, .seq (subc (bodyOf Try.f86) [1, 1, 1])]).2 (finish ⟨L, F, nt, X⟩ Try.f86 (sig F 86).res [])) (clean 0 1 (look (lookV V 86) 3) []) n (f86_3_S aT aC a i7 v8)) ) (by kernel_rfl) (congrArg (fun q => q ) (congrArg (f86_R nt X n ) (show (fun i7 v8 => loopN (stepL ⟨L, F, nt, X⟩ ⟨0, lookV V 86⟩ n (subc (bodyOf Try.f86) [1, 1, 0, 1, 0, 0]) (look (lookV V 86) 3).xl (kNf ⟨L, F, nt, X⟩ ⟨0, lookV V 86⟩ n (finish ⟨L, F, nt, X⟩ Try.f86 (sig F 86).res []) (finish ⟨L, F, nt, X⟩ Try.f86 (sig F 86).res []) (fun _ _ => none) [.block 0, .seq (subc (bodyOf Try.f86) [1, 1, 1])]).2 (finish ⟨L, F, nt, X⟩ Try.f86 (sig F 86).res [])) (clean 0 1 (look (lookV V 86) 3) []) n (f86_3_S aT aC a i7 v8)) = _ from funext fun i7 => funext fun v8 => (f86_3_e nt X n (kNf ⟨L, F, nt, X⟩ ⟨0, lookV V 86⟩ n (finish ⟨L, F, nt, X⟩ Try.f86 (sig F 86).res []) (finish ⟨L, F, nt, X⟩ Try.f86 (sig F 86).res []) (fun _ _ => none) [.block 0, .seq (subc (bodyOf Try.f86) [1, 1, 1])]).2 (finish ⟨L, F, nt, X⟩ Try.f86 (sig F 86).res []) aT aC a n i7 v8).trans (congrArg (fun q => q a n i7 v8) (congr (congrArg (f86_3_L nt X n) (show (fun v8 => (kNf ⟨L, F, nt, X⟩ ⟨0, lookV V 86⟩ n (finish ⟨L, F, nt, X⟩ Try.f86 (sig F 86).res []) (finish ⟨L, F, nt, X⟩ Try.f86 (sig F 86).res []) (fun _ _ => none) [.block 0, .seq (subc (bodyOf Try.f86) [1, 1, 1])]).2 0 (f86_3_X0 v8)) = (fun v8 => f86_3_P0 nt X n ) from funext fun v8 => (f86_3_P0_q nt X n v8))) (show (fun i7 v8 => (finish ⟨L, F, nt, X⟩ Try.f86 (sig F 86).res []) (f86_3_X1 a i7 v8)) = (fun i7 v8 => f86_3_P1 nt X n ) from funext fun i7 => funext fun v8 => (f86_3_P1_q nt X n a i7 v8)))))))
def f145 (nt : Nat) (X : Call') (n : Nat) (a : Int) : Option (List AV × List AObj) :=
  some (([AV.bool (decide (bitsOf BinOp.andNot IntKind.u8 a 63 = 0))], []))
theorem f145_q (nt : Nat) (X : Call') (n : Nat) (a : Int) : evBody ⟨L, F, nt, X⟩ (lookV V 145) n Try.f145 (sig F 145).res [AV.int IntKind.u8 a] [] = f145 nt X n a := by kernel_rfl
def f155 (nt : Nat) (X : Call') (n : Nat) (a : Int) : Option (List AV × List AObj) :=
  (bif decide (0 ≤ a) && decide (a < 256) then some (([AV.int IntKind.i64 (IntKind.wrap IntKind.i64 (↑(UInt8.toNat (nth (UInt8.ofNat 0) [UInt8.ofNat 0, UInt8.ofNat 1, UInt8.ofNat 1, UInt8.ofNat 2, UInt8.ofNat 1, UInt8.ofNat 2, UInt8.ofNat 2, UInt8.ofNat 3, UInt8.ofNat 1, UInt8.ofNat 2, UInt8.ofNat 2, UInt8.ofNat 3, UInt8.ofNat 2, UInt8.ofNat 3, UInt8.ofNat 3, UInt8.ofNat 4, UInt8.ofNat 1, UInt8.ofNat 2, UInt8.ofNat 2, UInt8.ofNat 3, UInt8.ofNat 2, UInt8.ofNat 3, UInt8.ofNat 3, UInt8.ofNat 4, UInt8.ofNat 2, UInt8.ofNat 3, UInt8.ofNat 3, UInt8.ofNat 4, UInt8.ofNat 3, UInt8.ofNat 4, UInt8.ofNat 4, UInt8.ofNat 5, UInt8.ofNat 1, UInt8.ofNat 2, UInt8.ofNat 2, UInt8.ofNat 3, UInt8.ofNat 2, UInt8.ofNat 3, UInt8.ofNat 3, UInt8.ofNat 4, UInt8.ofNat 2, UInt8.ofNat 3, UInt8.ofNat 3, UInt8.ofNat 4, UInt8.ofNat 3, UInt8.ofNat 4, UInt8.ofNat 4, UInt8.ofNat 5, UInt8.ofNat 2, UInt8.ofNat 3, UInt8.ofNat 3, UInt8.ofNat 4, UInt8.ofNat 3, UInt8.ofNat 4, UInt8.ofNat 4, UInt8.ofNat 5, UInt8.ofNat 3, UInt8.ofNat 4, UInt8.ofNat 4, UInt8.ofNat 5, UInt8.ofNat 4, UInt8.ofNat 5, UInt8.ofNat 5, UInt8.ofNat 6, UInt8.ofNat 1, UInt8.ofNat 2, UInt8.ofNat 2, UInt8.ofNat 3, UInt8.ofNat 2, UInt8.ofNat 3, UInt8.ofNat 3, UInt8.ofNat 4, UInt8.ofNat 2, UInt8.ofNat 3, UInt8.ofNat 3, UInt8.ofNat 4, UInt8.ofNat 3, UInt8.ofNat 4, UInt8.ofNat 4, UInt8.ofNat 5, UInt8.ofNat 2, UInt8.ofNat 3, UInt8.ofNat 3, UInt8.ofNat 4, UInt8.ofNat 3, UInt8.ofNat 4, UInt8.ofNat 4, UInt8.ofNat 5, UInt8.ofNat 3, UInt8.ofNat 4, UInt8.ofNat 4, UInt8.ofNat 5, UInt8.ofNat 4, UInt8.ofNat 5, UInt8.ofNat 5, UInt8.ofNat 6, UInt8.ofNat 2, UInt8.ofNat 3, UInt8.ofNat 3, UInt8.ofNat 4, UInt8.ofNat 3, UInt8.ofNat 4, UInt8.ofNat 4, UInt8.ofNat 5, UInt8.ofNat 3, UInt8.ofNat 4, UInt8.ofNat 4, UInt8.ofNat 5, UInt8.ofNat 4, UInt8.ofNat 5, UInt8.ofNat 5, UInt8.ofNat 6, UInt8.ofNat 3, UInt8.ofNat 4, UInt8.ofNat 4, UInt8.ofNat 5, UInt8.ofNat 4, UInt8.ofNat 5, UInt8.ofNat 5, UInt8.ofNat 6, UInt8.ofNat 4, UInt8.ofNat 5, UInt8.ofNat 5, UInt8.ofNat 6, UInt8.ofNat 5, UInt8.ofNat 6, UInt8.ofNat 6, UInt8.ofNat 7, UInt8.ofNat 1, UInt8.ofNat 2, UInt8.ofNat 2, UInt8.ofNat 3, UInt8.ofNat 2, UInt8.ofNat 3, UInt8.ofNat 3, UInt8.ofNat 4, UInt8.ofNat 2, UInt8.ofNat 3, UInt8.ofNat 3, UInt8.ofNat 4, UInt8.ofNat 3, UInt8.ofNat 4, UInt8.ofNat 4, UInt8.ofNat 5, UInt8.ofNat 2, UInt8.ofNat 3, UInt8.ofNat 3, UInt8.ofNat 4, UInt8.ofNat 3, UInt8.ofNat 4, UInt8.ofNat 4, UInt8.ofNat 5, UInt8.ofNat 3, UInt8.ofNat 4, UInt8.ofNat 4, UInt8.ofNat 5, UInt8.ofNat 4, UInt8.ofNat 5, UInt8.ofNat 5, UInt8.ofNat 6, UInt8.ofNat 2, UInt8.ofNat 3, UInt8.ofNat 3, UInt8.ofNat 4, UInt8.ofNat 3, UInt8.ofNat 4, UInt8.ofNat 4, UInt8.ofNat 5, UInt8.ofNat 3, UInt8.ofNat 4, UInt8.ofNat 4, UInt8.ofNat 5, UInt8.ofNat 4, UInt8.ofNat 5, UInt8.ofNat 5, UInt8.ofNat 6, UInt8.ofNat 3, UInt8.ofNat 4, UInt8.ofNat 4, UInt8.ofNat 5, UInt8.ofNat 4, UInt8.ofNat 5, UInt8.ofNat 5, UInt8.ofNat 6, UInt8.ofNat 4, UInt8.ofNat 5, UInt8.ofNat 5, UInt8.ofNat 6, UInt8.ofNat 5, UInt8.ofNat 6, UInt8.ofNat 6, UInt8.ofNat 7, UInt8.ofNat 2, UInt8.ofNat 3, UInt8.ofNat 3, UInt8.ofNat 4, UInt8.ofNat 3, UInt8.ofNat 4, UInt8.ofNat 4, UInt8.ofNat 5, UInt8.ofNat 3, UInt8.ofNat 4, UInt8.ofNat 4, UInt8.ofNat 5, UInt8.ofNat 4, UInt8.ofNat 5, UInt8.ofNat 5, UInt8.ofNat 6, UInt8.ofNat 3, UInt8.ofNat 4, UInt8.ofNat 4, UInt8.ofNat 5, UInt8.ofNat 4, UInt8.ofNat 5, UInt8.ofNat 5, UInt8.ofNat 6, UInt8.ofNat 4, UInt8.ofNat 5, UInt8.ofNat 5, UInt8.ofNat 6, UInt8.ofNat 5, UInt8.ofNat 6, UInt8.ofNat 6, UInt8.ofNat 7, UInt8.ofNat 3, UInt8.ofNat 4, UInt8.ofNat 4, UInt8.ofNat 5, UInt8.ofNat 4, UInt8.ofNat 5, UInt8.ofNat 5, UInt8.ofNat 6, UInt8.ofNat 4, UInt8.ofNat 5, UInt8.ofNat 5, UInt8.ofNat 6, UInt8.ofNat 5, UInt8.ofNat 6, UInt8.ofNat 6, UInt8.ofNat 7, UInt8.ofNat 4, UInt8.ofNat 5, UInt8.ofNat 5, UInt8.ofNat 6, UInt8.ofNat 5, UInt8.ofNat 6, UInt8.ofNat 6, UInt8.ofNat 7, UInt8.ofNat 5, UInt8.ofNat 6, UInt8.ofNat 6, UInt8.ofNat 7, UInt8.ofNat 6, UInt8.ofNat 7, UInt8.ofNat 7, UInt8.ofNat 8] (Int.toNat a))) : Int))], [])) else none)
theorem f155_q (nt : Nat) (X : Call') (n : Nat) (a : Int) : evBody ⟨L, F, nt, X⟩ (lookV V 155) n Try.f155 (sig F 155).res [AV.int IntKind.u8 a] [] = f155 nt X n a := by kernel_rfl
def f140 (nt : Nat) (X : Call') (n : Nat) (a : Int) : Option (List AV × List AObj) :=
  ((X 145 [AV.int IntKind.u8 a] []).bind fun r5 => (bif AV.toB (nth AV.u (AV.toCells (nth AV.u (Prod.fst r5) 0)) 0) then ((X 155 [AV.int IntKind.u8 a] []).bind fun r6 => some (([AV.bool (decide (AV.toI (nth AV.u (AV.toCells (nth AV.u (Prod.fst r6) 0)) 0) = 1))], []))) else some (([AV.bool false], []))))
theorem f140_q (nt : Nat) (X : Call') (n : Nat) (a : Int) : evBody ⟨L, F, nt, X⟩ (lookV V 140) n Try.f140 (sig F 140).res [AV.int IntKind.u8 a] [] = f140 nt X n a := by kernel_rfl

theorem lt_len {l : List Row} {k : Nat} (h : k < l.length) : decide ((k : Int) < (l.length : Int)) = true := by simp only [decide_eq_true_eq]; omega
theorem ge_zero (k : Nat) : decide ((0 : Int) ≤ (k : Int)) = true := by simp only [decide_eq_true_eq]; omega
theorem lt_self (l : List Row) : decide (((l.length : Nat) : Int) < (l.length : Int)) = false := by simp
theorem f123b_loop {nt n : Nat} {ts : List (Told nt)} {l : List Row} (hb : l.length < big) : ∀ (fu k : Nat), k ≤ l.length → l.length - k < fu →
    f123b_2_L nt (tab (⟨156, sp156, told156 nt⟩ :: ts)) n (f123b_2_P0 nt (tab (⟨156, sp156, told156 nt⟩ :: ts)) n) (fun i8 => f123b_2_P1 nt (tab (⟨156, sp156, told156 nt⟩ :: ts)) n i8) l fu k = some ([.int .i64 (nameIx (strsOf (l.drop k)) k)], [])
  | 0, k, h1, h2 => by omega
  | fu + 1, k, h1, h2 => by
    by_cases hk : k < l.length
    · have hw := wrap_i64_nat (k := k) (by unfold big at hb; omega)
      rw [drop_nth hk]
      simp only [strsOf, List.map_cons, nameIx]
      rw [← strsOf]
      simp only [f123b_2_L, f123b_2, lt_len hk, ge_zero, Int.toNat_natCast, tab_hit, sp156, cond_true, Option.bind_some, toB_bool, toCells_bool, nth_zero, hw, Bool.true_and]
      cases mayName (nth AV.u (nth [] l k) 0).toS
      · rfl
      · exact f123b_loop hb fu (k + 1) (by omega) (by omega)
    · obtain rfl : k = l.length := by omega
      simp only [f123b_2_L, f123b_2, lt_self, List.drop_length, strsOf, List.map_nil, nameIx, cond_false, f123b_2_P0]
def sp123 : Sp
  | [.ps _ 9 _ l, .func (some 156) []], [] => bif Nat.blt l.length big then some ([.int .i64 (nameIx (strsOf l) 0)], []) else none
  | _, _ => none
theorem told123 (nt : Nat) : Facts nt 123 sp123 := fun args h rs h' hv => by
  unfold sp123 at hv
  split at hv
  · rename_i T C l
    cases hb : Nat.blt l.length big
    · rw [hb] at hv; cases hv
    · rw [hb] at hv
      rw [nblt] at hb
      refine fact_tab Try.func123 [⟨156, sp156, told156 nt⟩] (l.length + 1) ?_
      rw [f123b_q, ← hv]
      exact f123b_loop hb (l.length + 1) 0 (by omega) (by omega)
  · cases hv
def sp87 : Sp
  | [.ps _ 9 _ l, .func (some 156) []], [] => bif Nat.blt l.length big then some ([.bool (!(strsOf l).all mayName)], []) else none
  | _, _ => none
theorem told87 (nt : Nat) : Facts nt 87 sp87 := fun args h rs h' hv => by
  unfold sp87 at hv
  split at hv
  · rename_i T C l
    cases hb : Nat.blt l.length big
    · rw [hb] at hv; cases hv
    · rw [hb] at hv
      refine fact_tab Try.func87 [⟨123, sp123, told123 nt⟩] 1 ?_
      rw [f87b_q, ← hv, ← nameIx_ok _ 0 (by omega)]
      simp only [f87b, tab_hit, sp123, hb, cond_true, Option.bind_some, toI_int, toCells_int, nth_zero]
      rfl
  · cases hv
theorem sel2 (b c : Bool) : (bif b then some ([AV.bool true], ([] : List AObj)) else some ([AV.bool c], [])) = some ([AV.bool (bif b then true else c)], []) := by cases b <;> rfl
theorem f86_loop {nt n : Nat} {X : Call'} {l : List Row} (hb : l.length < big) : ∀ (fu k : Nat) (m : List (AV × AV)), k ≤ l.length → l.length - k < fu →
    f86_3_L nt X n (fun v8 => f86_3_P0 nt X n) (fun i7 v8 => f86_3_P1 nt X n) l fu k m = some ([.bool (twGo (strsOf (l.drop k)) m)], [])
  | 0, k, m, h1, h2 => by omega
  | fu + 1, k, m, h1, h2 => by
    by_cases hk : k < l.length
    · have hw := wrap_i64_nat (k := k) (by unfold big at hb; omega)
      rw [drop_nth hk]
      simp only [strsOf, List.map_cons, twGo]
      rw [← strsOf]
      have e := f86_loop (nt := nt) (n := n) (X := X) hb fu (k + 1) (meet (nth AV.u (nth [] l k) 0).toS m) (by omega) (by omega)
      simp only [f86_3_L, f86_3, lt_len hk, ge_zero, Int.toNat_natCast, cond_true, hw, Bool.true_and]
      simp only [met, meet] at e ⊢
      rw [e]
      exact sel2 _ _
    · obtain rfl : k = l.length := by omega
      simp only [f86_3_L, f86_3, lt_self, List.drop_length, strsOf, List.map_nil, twGo, cond_false, f86_3_P0]
def sp86 : Sp
  | [.ps _ 9 _ l], [] => bif Nat.blt l.length big then some ([.bool (twice (strsOf l))], []) else none
  | _, _ => none
theorem told86 (nt : Nat) : Facts nt 86 sp86 := fun args h rs h' hv => by
  unfold sp86 at hv
  split at hv
  · rename_i T C l
    cases hb : Nat.blt l.length big
    · rw [hb] at hv; cases hv
    · rw [hb] at hv
      rw [nblt] at hb
      refine fact_tab Try.func86 [] (l.length + 1) ?_
      rw [f86_q, ← hv]
      exact f86_loop hb (l.length + 1) 0 [] (by omega) (by omega)
  · cases hv
def sp145 : Sp
  | [.int .u8 a], [] => some ([.bool (decide (bitsOf .andNot .u8 a 63 = 0))], [])
  | _, _ => none
theorem told145 (nt : Nat) : Facts nt 145 sp145 := fun args h rs h' hv => by
  unfold sp145 at hv
  split at hv
  · refine fact_tab Try.func145 [] 1 ?_
    rw [f145_q, ← hv]
    rfl
  · cases hv
end Go.Ev.T
