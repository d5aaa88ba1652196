/- Function 45 (Set), decompiled, and what it comes to. -/
import Derived.Test.YtljiamlnpmhpmaaF40
set_option linter.unusedVariables false
set_option linter.unusedSimpArgs false
noncomputable section
namespace Go.Ev
theorem find_idx {α : Type} (p : α → Bool) : ∀ (l : List α), (l.findIdx? p).isSome = l.any p
  | [] => rfl
  | x :: xs => by
    rw [List.findIdx?_cons, List.any_cons]
    cases p x
    · simp only [Bool.false_or]
      rw [← find_idx p xs]
      simp
    · rfl
end Go.Ev
namespace Go.Ev.T
open Go Go.Ev Go.Proofs
def f45_6_S (b : List UInt8) (r19 : List AV × List AObj) (r20 : List AV × List AObj) (i21 : Int) : St := St.mk [AV.u, AV.str b, AV.u, AV.u, AV.u, AV.ptr 0 0 0 0, AV.u, AV.u, AV.own 1 0, AV.u, AV.u, AV.u, AV.u, AV.u, AV.u, AV.u, AV.u, AV.u, AV.u, AV.u, AV.u, AV.u, AV.u, AV.u, AV.u, AV.u, AV.u, AV.u, AV.u, AV.u, AV.u, AV.int IntKind.i64 (↑(List.length (AObj.toRows (nth AObj.dead (Prod.snd r19) 0))) : Int), AV.int IntKind.i64 i21, AV.u, AV.u, AV.u, AV.u, AV.u, AV.u, AV.u, AV.u, AV.u, AV.u, AV.u, AV.u, AV.u, AV.u, AV.u, AV.u, AV.u, AV.u, AV.u, AV.u, AV.u, AV.u, AV.u, AV.u, AV.u] [AObj.box 34 [AV.int IntKind.u8 (AV.toI (nth AV.u (AV.toCells (nth AV.u (Prod.fst r20) 0)) 0)), AV.int IntKind.i64 (AV.toI (nth AV.u (AV.toCells (nth AV.u (Prod.fst r20) 0)) 1)), AV.str (AV.toS (nth AV.u (AV.toCells (nth AV.u (Prod.fst r20) 0)) 2)), AV.ps (AV.toTg (nth AV.u (AV.toCells (nth AV.u (Prod.fst r20) 0)) 3)) 34 (AV.toCp (nth AV.u (AV.toCells (nth AV.u (Prod.fst r20) 0)) 3)) (AV.toR (nth AV.u (AV.toCells (nth AV.u (Prod.fst r20) 0)) 3)), AV.int IntKind.i64 (AV.toI (nth AV.u (AV.toCells (nth AV.u (Prod.fst r20) 0)) 4))], AObj.arr 73 (AObj.toRows (nth AObj.dead (Prod.snd r19) 0)) (AObj.toC (nth AObj.dead (Prod.snd r19) 0)) 0 (AObj.toFz (nth AObj.dead (Prod.snd r19) 0))]
def f45_6_X0 (b : List UInt8) (r19 : List AV × List AObj) (r20 : List AV × List AObj) : St := St.mk [AV.u, AV.str b, AV.u, AV.u, AV.u, AV.ptr 0 0 0 0, AV.u, AV.u, AV.own 1 0, AV.u, AV.u, AV.u, AV.u, AV.u, AV.u, AV.u, AV.u, AV.u, AV.u, AV.u, AV.u, AV.u, AV.u, AV.u, AV.u, AV.u, AV.u, AV.u, AV.u, AV.u, AV.u, AV.u, AV.u, AV.u, AV.u, AV.u, AV.u, AV.u, AV.u, AV.u, AV.u, AV.u, AV.u, AV.u, AV.u, AV.u, AV.u, AV.u, AV.u, AV.u, AV.u, AV.u, AV.u, AV.u, AV.u, AV.u, AV.u, AV.u] [AObj.box 34 [AV.int IntKind.u8 (AV.toI (nth AV.u (AV.toCells (nth AV.u (Prod.fst r20) 0)) 0)), AV.int IntKind.i64 (AV.toI (nth AV.u (AV.toCells (nth AV.u (Prod.fst r20) 0)) 1)), AV.str (AV.toS (nth AV.u (AV.toCells (nth AV.u (Prod.fst r20) 0)) 2)), AV.ps (AV.toTg (nth AV.u (AV.toCells (nth AV.u (Prod.fst r20) 0)) 3)) 34 (AV.toCp (nth AV.u (AV.toCells (nth AV.u (Prod.fst r20) 0)) 3)) (AV.toR (nth AV.u (AV.toCells (nth AV.u (Prod.fst r20) 0)) 3)), AV.int IntKind.i64 (AV.toI (nth AV.u (AV.toCells (nth AV.u (Prod.fst r20) 0)) 4))], AObj.arr 73 (AObj.toRows (nth AObj.dead (Prod.snd r19) 0)) (AObj.toC (nth AObj.dead (Prod.snd r19) 0)) 0 (AObj.toFz (nth AObj.dead (Prod.snd r19) 0))]
def f45_6_X1 (b : List UInt8) (r19 : List AV × List AObj) (r20 : List AV × List AObj) (i21 : Int) : St := St.mk [AV.u, AV.str b, AV.u, AV.u, AV.u, AV.ptr 0 0 0 0, AV.own 1 0, AV.int IntKind.i64 0, AV.own 1 0, AV.u, AV.u, AV.u, AV.u, AV.u, AV.u, AV.u, AV.u, AV.u, AV.u, AV.u, AV.u, AV.u, AV.u, AV.u, AV.u, AV.u, AV.u, AV.u, AV.u, AV.u, AV.u, AV.u, AV.u, AV.u, AV.u, AV.u, AV.u, AV.u, AV.u, AV.u, AV.u, AV.u, AV.u, AV.u, AV.u, AV.u, AV.u, AV.u, AV.u, AV.u, AV.u, AV.u, AV.u, AV.u, AV.u, AV.u, AV.u, AV.u] [AObj.box 34 [AV.int IntKind.u8 (AV.toI (nth AV.u (AV.toCells (nth AV.u (Prod.fst r20) 0)) 0)), AV.int IntKind.i64 (AV.toI (nth AV.u (AV.toCells (nth AV.u (Prod.fst r20) 0)) 1)), AV.str (AV.toS (nth AV.u (AV.toCells (nth AV.u (Prod.fst r20) 0)) 2)), AV.ps (AV.toTg (nth AV.u (AV.toCells (nth AV.u (Prod.fst r20) 0)) 3)) 34 (AV.toCp (nth AV.u (AV.toCells (nth AV.u (Prod.fst r20) 0)) 3)) (AV.toR (nth AV.u (AV.toCells (nth AV.u (Prod.fst r20) 0)) 3)), AV.int IntKind.i64 (AV.toI (nth AV.u (AV.toCells (nth AV.u (Prod.fst r20) 0)) 4))], AObj.arr 73 (upd (AObj.toRows (nth AObj.dead (Prod.snd r19) 0)) (Int.toNat i21) [AV.str (AV.toS (nth AV.u (nth [] (AObj.toRows (nth AObj.dead (Prod.snd r19) 0)) (Int.toNat i21)) 0)), AV.int IntKind.u8 (AV.toI (nth AV.u (AV.toCells (nth AV.u (Prod.fst r20) 0)) 0)), AV.int IntKind.i64 (AV.toI (nth AV.u (AV.toCells (nth AV.u (Prod.fst r20) 0)) 1)), AV.str (AV.toS (nth AV.u (AV.toCells (nth AV.u (Prod.fst r20) 0)) 2)), AV.ps (AV.toTg (nth AV.u (AV.toCells (nth AV.u (Prod.fst r20) 0)) 3)) 34 (AV.toCp (nth AV.u (AV.toCells (nth AV.u (Prod.fst r20) 0)) 3)) (AV.toR (nth AV.u (AV.toCells (nth AV.u (Prod.fst r20) 0)) 3)), AV.int IntKind.i64 (AV.toI (nth AV.u (AV.toCells (nth AV.u (Prod.fst r20) 0)) 4))]) (AObj.toC (nth AObj.dead (Prod.snd r19) 0)) 0 (AObj.toFz (nth AObj.dead (Prod.snd r19) 0))]
def f45_6 {ρ : Type} (nt : Nat) (X : Call') (n : Nat) (kN : Int → Option ρ) (x1 : Int → Option ρ) (x0 : Option ρ) (b : List UInt8) (r19 : List AV × List AObj) (i21 : Int) : Option ρ :=
  (bif decide (i21 < (↑(List.length (AObj.toRows (nth AObj.dead (Prod.snd r19) 0))) : Int)) then (bif decide (0 ≤ i21) && decide (i21 < (↑(List.length (AObj.toRows (nth AObj.dead (Prod.snd r19) 0))) : Int)) then (bif decide (AV.toS (nth AV.u (nth [] (AObj.toRows (nth AObj.dead (Prod.snd r19) 0)) (Int.toNat i21)) 0) = b) then (bif decide (0 ≤ i21) && decide (i21 < (↑(List.length (AObj.toRows (nth AObj.dead (Prod.snd r19) 0))) : Int)) then (bif Nat.ble (AObj.toFz (nth AObj.dead (Prod.snd r19) 0)) (Int.toNat i21) && true && true then x1 i21 else none) else none) else kN (IntKind.wrap IntKind.i64 (i21 + 1))) else none) else x0 )
theorem f45_6_q {ρ : Type} (nt : Nat) (X : Call') (n : Nat) (kN : St → Option ρ) (kX : Nat → St → Option ρ) (kR : St → Option ρ) (b : List UInt8) (r19 : List AV × List AObj) (r20 : List AV × List AObj) (i21 : Int) : stepL ⟨L, F, nt, X⟩ ⟨0, lookV V 45⟩ n (subc (bodyOf Try.f45) [1, 1, 1, 1, 0, 1, 0, 0]) (look (lookV V 45) 6).xl kX kR (fun s => kN ((clean 0 2 (look (lookV V 45) 6) []) s)) (f45_6_S b r19 r20 i21) = f45_6 nt X n (fun i21 => kN (f45_6_S b r19 r20 i21)) (fun i21 => kR (f45_6_X1 b r19 r20 i21)) (kX 0 (f45_6_X0 b r19 r20)) b r19 i21 := by kernel_rfl
def f45_6_L {ρ : Type} (nt : Nat) (X : Call') (n : Nat) (x0 : Option ρ) (x1 : Int → Option ρ) (b : List UInt8) (r19 : List AV × List AObj) : Nat → Int → Option ρ
  | 0, _ => none
  | m + 1, i21 => f45_6 nt X n (fun i21 => f45_6_L nt X n x0 x1 b r19 m i21) x1 x0 b r19 i21
theorem f45_6_e {ρ : Type} (nt : Nat) (X : Call') (n : Nat) (kX : Nat → St → Option ρ) (kR : St → Option ρ) (b : List UInt8) (r19 : List AV × List AObj) (r20 : List AV × List AObj) (m : Nat) (i21 : Int) : loopN (stepL ⟨L, F, nt, X⟩ ⟨0, lookV V 45⟩ n (subc (bodyOf Try.f45) [1, 1, 1, 1, 0, 1, 0, 0]) (look (lookV V 45) 6).xl kX kR) (clean 0 2 (look (lookV V 45) 6) []) m (f45_6_S b r19 r20 i21) = f45_6_L nt X n (kX 0 (f45_6_X0 b r19 r20)) (fun i21 => kR (f45_6_X1 b r19 r20 i21)) b r19 m i21 :=
  loopN_ind (α := Int) (fun w => ((fun i21 => (f45_6_S b r19 r20 i21))) w) (fun k w => ((fun i21 => f45_6 nt X n (fun i21 => k (i21)) (fun i21 => kR (f45_6_X1 b r19 r20 i21)) (kX 0 (f45_6_X0 b r19 r20)) b r19 i21)) w) (fun m w => ((fun i21 => f45_6_L nt X n (kX 0 (f45_6_X0 b r19 r20)) (fun i21 => kR (f45_6_X1 b r19 r20 i21)) b r19 m i21)) w) (fun _ => rfl) (fun _ _ => rfl) (fun kN w => ((fun i21 => f45_6_q nt X n kN kX kR b r19 r20 i21)) w) m (i21)
def f45_6_P0 (nt : Nat) (X : Call') (n : Nat) (b : List UInt8) (r19 : List AV × List AObj) (r20 : List AV × List AObj) : Option (List AV × List AObj) :=
  (bif decide (64 ≤ (↑(List.length (AObj.toRows (nth AObj.dead (Prod.snd r19) 0))) : Int)) then some (([AV.ps 0 0 (Cp.mk true true) [], AV.int IntKind.i64 8], [])) else (bif Nat.ble ((List.length (AObj.toRows (nth AObj.dead (Prod.snd r19) 0)) + 1) * 80) 1099511627776 then some (([AV.ps nt 73 (Cp.mk (Cp.nl (AObj.toC (nth AObj.dead (Prod.snd r19) 0)) && false) false) (AObj.toRows (nth AObj.dead (Prod.snd r19) 0) ++ [[AV.str b, AV.int IntKind.u8 (AV.toI (nth AV.u (AV.toCells (nth AV.u (Prod.fst r20) 0)) 0)), AV.int IntKind.i64 (AV.toI (nth AV.u (AV.toCells (nth AV.u (Prod.fst r20) 0)) 1)), AV.str (AV.toS (nth AV.u (AV.toCells (nth AV.u (Prod.fst r20) 0)) 2)), AV.ps (AV.toTg (nth AV.u (AV.toCells (nth AV.u (Prod.fst r20) 0)) 3)) 34 (AV.toCp (nth AV.u (AV.toCells (nth AV.u (Prod.fst r20) 0)) 3)) (AV.toR (nth AV.u (AV.toCells (nth AV.u (Prod.fst r20) 0)) 3)), AV.int IntKind.i64 (AV.toI (nth AV.u (AV.toCells (nth AV.u (Prod.fst r20) 0)) 4))]]), AV.int IntKind.i64 0], [])) else none))
theorem f45_6_P0_q (nt : Nat) (X : Call') (n : Nat) (b : List UInt8) (r19 : List AV × List AObj) (r20 : List AV × List AObj) : (kNf ⟨L, F, nt, X⟩ ⟨0, lookV V 45⟩ n (finish ⟨L, F, nt, X⟩ Try.f45 (sig F 45).res []) (finish ⟨L, F, nt, X⟩ Try.f45 (sig F 45).res []) (fun _ _ => none) [.block 0, .seq (subc (bodyOf Try.f45) [1, 1, 1, 1, 1])]).2 0 (f45_6_X0 b r19 r20) = f45_6_P0 nt X n b r19 r20 := by kernel_rfl
def f45_6_P1 (nt : Nat) (X : Call') (n : Nat) (r19 : List AV × List AObj) (r20 : List AV × List AObj) (i21 : Int) : Option (List AV × List AObj) :=
  some (([AV.ps nt 73 (Cp.mk (Cp.nl (AObj.toC (nth AObj.dead (Prod.snd r19) 0))) false) (upd (AObj.toRows (nth AObj.dead (Prod.snd r19) 0)) (Int.toNat i21) [AV.str (AV.toS (nth AV.u (nth [] (AObj.toRows (nth AObj.dead (Prod.snd r19) 0)) (Int.toNat i21)) 0)), AV.int IntKind.u8 (AV.toI (nth AV.u (AV.toCells (nth AV.u (Prod.fst r20) 0)) 0)), AV.int IntKind.i64 (AV.toI (nth AV.u (AV.toCells (nth AV.u (Prod.fst r20) 0)) 1)), AV.str (AV.toS (nth AV.u (AV.toCells (nth AV.u (Prod.fst r20) 0)) 2)), AV.ps (AV.toTg (nth AV.u (AV.toCells (nth AV.u (Prod.fst r20) 0)) 3)) 34 (AV.toCp (nth AV.u (AV.toCells (nth AV.u (Prod.fst r20) 0)) 3)) (AV.toR (nth AV.u (AV.toCells (nth AV.u (Prod.fst r20) 0)) 3)), AV.int IntKind.i64 (AV.toI (nth AV.u (AV.toCells (nth AV.u (Prod.fst r20) 0)) 4))]), AV.int IntKind.i64 0], []))
theorem f45_6_P1_q (nt : Nat) (X : Call') (n : Nat) (b : List UInt8) (r19 : List AV × List AObj) (r20 : List AV × List AObj) (i21 : Int) : (finish ⟨L, F, nt, X⟩ Try.f45 (sig F 45).res []) (f45_6_X1 b r19 r20 i21) = f45_6_P1 nt X n r19 r20 i21 := by kernel_rfl
def f45_J2 (nt : Nat) (X : Call') (n : Nat) (L0 : List AV × List AObj → List AV × List AObj → Int → Option (List AV × List AObj)) (aT : Nat) (aC : Cp) (a : List Row) (c0 : Int) (c1 : Int) (c2 : List UInt8) (c3T : Nat) (c3C : Cp) (c3 : List Row) (c4 : Int) (b18 : Bool) : Option (List AV × List AObj) :=
  (bif b18 then some (([AV.ps 0 0 (Cp.mk true true) [], AV.int IntKind.i64 2], [])) else ((X 89 [AV.ps aT 73 aC a] []).bind fun r19 => ((X 85 [AV.agg [AV.int IntKind.u8 c0, AV.int IntKind.i64 c1, AV.str c2, AV.ps c3T 34 c3C c3, AV.int IntKind.i64 c4]] []).bind fun r20 => L0 r19 r20 (0))))
def f45_R (nt : Nat) (X : Call') (n : Nat) (L0 : List AV × List AObj → List AV × List AObj → Int → Option (List AV × List AObj)) (aT : Nat) (aC : Cp) (a : List Row) (b : List UInt8) (c0 : Int) (c1 : Int) (c2 : List UInt8) (c3T : Nat) (c3C : Cp) (c3 : List Row) (c4 : Int) : Option (List AV × List AObj) :=
  ((X 40 [AV.ps aT 73 aC a] []).bind fun r15 => (bif !AV.toB (nth AV.u (AV.toCells (nth AV.u (Prod.fst r15) 0)) 0) then f45_J2 nt X n L0 aT aC a c0 c1 c2 c3T c3C c3 c4 (true) else ((X 38 [AV.str b] []).bind fun r16 => (bif !AV.toB (nth AV.u (AV.toCells (nth AV.u (Prod.fst r16) 0)) 0) then f45_J2 nt X n L0 aT aC a c0 c1 c2 c3T c3C c3 c4 (true) else ((X 64 [AV.agg [AV.int IntKind.u8 c0, AV.int IntKind.i64 c1, AV.str c2, AV.ps c3T 34 c3C c3, AV.int IntKind.i64 c4]] []).bind fun r17 => f45_J2 nt X n L0 aT aC a c0 c1 c2 c3T c3C c3 c4 (!AV.toB (nth AV.u (AV.toCells (nth AV.u (Prod.fst r17) 0)) 0)))))))
def f45 (nt : Nat) (X : Call') (n : Nat) (aT : Nat) (aC : Cp) (a : List Row) (b : List UInt8) (c0 : Int) (c1 : Int) (c2 : List UInt8) (c3T : Nat) (c3C : Cp) (c3 : List Row) (c4 : Int) : Option (List AV × List AObj) :=
  f45_R nt X n (fun r19 r20 i21 => f45_6_L nt X n (f45_6_P0 nt X n b r19 r20) (fun i21 => f45_6_P1 nt X n r19 r20 i21) b r19 n i21) aT aC a b c0 c1 c2 c3T c3C c3 c4
theorem f45_q (nt : Nat) (X : Call') (n : Nat) (aT : Nat) (aC : Cp) (a : List Row) (b : List UInt8) (c0 : Int) (c1 : Int) (c2 : List UInt8) (c3T : Nat) (c3C : Cp) (c3 : List Row) (c4 : Int) : evBody ⟨L, F, nt, X⟩ (lookV V 45) n Try.f45 (sig F 45).res [AV.ps aT 73 aC a, AV.str b, AV.agg [AV.int IntKind.u8 c0, AV.int IntKind.i64 c1, AV.str c2, AV.ps c3T 34 c3C c3, AV.int IntKind.i64 c4]] [] = f45 nt X n aT aC a b c0 c1 c2 c3T c3C c3 c4 :=
  Eq.trans (b := f45_R nt X n (fun r19 r20 i21 => loopN (stepL ⟨L, F, nt, X⟩ ⟨0, lookV V 45⟩ n (subc (bodyOf Try.f45) [1, 1, 1, 1, 0, 1, 0, 0]) (look (lookV V 45) 6).xl (kNf ⟨L, F, nt, X⟩ ⟨0, lookV V 45⟩ n (finish ⟨L, F, nt, X⟩ Try.f45 (sig F 45).res []) (finish ⟨L, F, nt, X⟩ Try.f45 (sig F 45).res []) (fun _ _ => none) [.block 0, .seq (subc (bodyOf Try.f45) [1, 1, 1, 1, 1])]).2 (finish ⟨L, F, nt, X⟩ Try.f45 (sig F 45).res [])) (clean 0 2 (look (lookV V 45) 6) []) n (f45_6_S b r19 r20 i21)) aT aC a b c0 c1 c2 c3T c3C c3 c4) (by kernel_rfl) (congrArg (fun q => q aT aC a b c0 c1 c2 c3T c3C c3 c4) (congrArg (f45_R nt X n ) (show (fun r19 r20 i21 => loopN (stepL ⟨L, F, nt, X⟩ ⟨0, lookV V 45⟩ n (subc (bodyOf Try.f45) [1, 1, 1, 1, 0, 1, 0, 0]) (look (lookV V 45) 6).xl (kNf ⟨L, F, nt, X⟩ ⟨0, lookV V 45⟩ n (finish ⟨L, F, nt, X⟩ Try.f45 (sig F 45).res []) (finish ⟨L, F, nt, X⟩ Try.f45 (sig F 45).res []) (fun _ _ => none) [.block 0, .seq (subc (bodyOf Try.f45) [1, 1, 1, 1, 1])]).2 (finish ⟨L, F, nt, X⟩ Try.f45 (sig F 45).res [])) (clean 0 2 (look (lookV V 45) 6) []) n (f45_6_S b r19 r20 i21)) = _ from funext fun r19 => funext fun r20 => funext fun i21 => (f45_6_e nt X n (kNf ⟨L, F, nt, X⟩ ⟨0, lookV V 45⟩ n (finish ⟨L, F, nt, X⟩ Try.f45 (sig F 45).res []) (finish ⟨L, F, nt, X⟩ Try.f45 (sig F 45).res []) (fun _ _ => none) [.block 0, .seq (subc (bodyOf Try.f45) [1, 1, 1, 1, 1])]).2 (finish ⟨L, F, nt, X⟩ Try.f45 (sig F 45).res []) b r19 r20 n i21).trans (congrArg (fun q => q b r19 n i21) (congr (congrArg (f45_6_L nt X n) (show ((kNf ⟨L, F, nt, X⟩ ⟨0, lookV V 45⟩ n (finish ⟨L, F, nt, X⟩ Try.f45 (sig F 45).res []) (finish ⟨L, F, nt, X⟩ Try.f45 (sig F 45).res []) (fun _ _ => none) [.block 0, .seq (subc (bodyOf Try.f45) [1, 1, 1, 1, 1])]).2 0 (f45_6_X0 b r19 r20)) = (f45_6_P0 nt X n b r19 r20) from (f45_6_P0_q nt X n b r19 r20))) (show (fun i21 => (finish ⟨L, F, nt, X⟩ Try.f45 (sig F 45).res []) (f45_6_X1 b r19 r20 i21)) = (fun i21 => f45_6_P1 nt X n r19 r20 i21) from funext fun i21 => (f45_6_P1_q nt X n b r19 r20 i21)))))))


/-- the cells of a value that is handed in, in memory of its own -/
def ownC (nt : Nat) (k n : Int) (s : List UInt8) (l : List Row) (r : Int) : Row := [.int .u8 k, .int .i64 n, .str s, .ps (ownTg nt l) 34 (ownCp l) (l.map (ownR nt)), .int .i64 r]
theorem vl_ownC (nt : Nat) (k n : Int) (s : List UInt8) (l : List Row) (r : Int) : vlOf (ownC nt k n s l r) = .mk k n s (vlsOf l) r := by
  rw [vlOf_eq]
  simp only [ownC, nth_zero, nth_1, nth_2, nth_3, nth_4, toI_int, toS_str, toR_ps, vls_own]
def isNm (b : List UInt8) (r : Row) : Bool := decide ((nth .u r 0).toS = b)
/-- the rows behind Set -/
def setRows' (nt : Nat) (l : List Row) (b : List UInt8) (v : Row) : List Row :=
  match l.findIdx? (isNm b) with
  | some i => upd (l.map (ownN nt)) i (.str b :: v)
  | none => l.map (ownN nt) ++ [.str b :: v]
def set45 (nt : Nat) (c : Cp) (l : List Row) (b : List UInt8) (v : Vl) (w : Row) : List AV × List AObj :=
  bif mayNames (nmsOf l) && mayName b && mayV v then
    (bif l.any (isNm b) then ([.ps nt 73 ⟨c.nl, false⟩ (setRows' nt l b w), .int .i64 0], [])
    else bif decide ((64 : Int) ≤ (l.length : Int)) then ([.ps 0 0 ⟨true, true⟩ [], .int .i64 8], []) else ([.ps nt 73 ⟨c.nl && false, false⟩ (setRows' nt l b w), .int .i64 0], []))
  else ([.ps 0 0 ⟨true, true⟩ [], .int .i64 2], [])
def sp45 (nt : Nat) : Sp
  | [.ps _ 73 c l, .str b, .agg [.int .u8 k, .int .i64 n, .str s, .ps _ 34 _ vl, .int .i64 r]], [] =>
    bif Nat.blt (szR l) big2 && Nat.blt (szR vl) big2 && (!c.nl || empty l) then some (set45 nt c l b (.mk k n s (vlsOf vl) r) (ownC nt k n s vl r)) else none
  | _, _ => none
theorem f45_loop {nt n : Nat} {X : Call'} {l : List Row} {cc : Cp} {b : List UInt8} {x0 : Option (List AV × List AObj)} {x1 : Int → Option (List AV × List AObj)} (hl : l.length < big2) : ∀ (fu j : Nat), j ≤ l.length → l.length - j < fu →
    f45_6_L nt X n x0 x1 b ([.own 0 0], [.arr 73 (l.map (ownN nt)) cc 0 0]) fu j = match (l.drop j).findIdx? (isNm b) with | some i => x1 ((j + i : Nat) : Int) | none => x0
  | 0, j, g1, g2 => by omega
  | fu + 1, j, g1, g2 => by
    have hr : (nth AObj.dead (Prod.snd (([AV.own 0 0], [AObj.arr 73 (l.map (ownN nt)) cc 0 0]) : List AV × List AObj)) 0) = AObj.arr 73 (l.map (ownN nt)) cc 0 0 := rfl
    have hll : (l.map (ownN nt)).length = l.length := by simp
    by_cases hk : j < l.length
    · have h3 : decide ((j : Int) < (l.length : Int)) = true := by simp only [decide_eq_true_eq]; omega
      have h4 : decide ((0 : Int) ≤ (j : Int)) = true := by simp only [decide_eq_true_eq]; omega
      have hw := wrap_i64_nat (k := j) (by unfold big2 at hl; omega)
      have hz : Nat.ble 0 j = true := by rw [nble]; omega
      have hn : (nth .u (nth [] (l.map (ownN nt)) j) 0).toS = (nth .u (nth [] l j) 0).toS := by
        rw [nth_get (s := l.map (ownN nt)) (by rw [hll]; exact hk), nth_get (s := l) hk, List.getElem_map]; rfl
      have ih := f45_loop (nt := nt) (n := n) (X := X) (cc := cc) (b := b) (x0 := x0) (x1 := x1) hl fu (j + 1) (by omega) (by omega)
      rw [drop_nth hk, List.findIdx?_cons]
      simp only [f45_6_L, f45_6, hr, AObj.toRows, AObj.toFz, hll, h3, h4, hz, Bool.and_self, cond_true, Int.toNat_natCast, hn, hw, ih]
      show _ = match (if isNm b (nth [] l j) = true then some 0 else Option.map (fun i => i + 1) (List.findIdx? (isNm b) (List.drop (j + 1) l))) with | some i => x1 ((j + i : Nat) : Int) | none => x0
      unfold isNm
      by_cases hb : (nth .u (nth [] l j) 0).toS = b
      · simp [hb]
      · simp only [hb, decide_false, cond_false, Bool.false_eq_true, if_false]
        cases List.findIdx? (fun r => decide ((nth AV.u r 0).toS = b)) (List.drop (j + 1) l) with
        | none => rfl
        | some i => simp only [Option.map_some]; congr 1; omega
    · obtain rfl : j = l.length := by omega
      have h3 : decide (((l.length : Nat) : Int) < (l.length : Int)) = false := by simp
      simp only [f45_6_L, f45_6, hr, AObj.toRows, hll, h3, List.drop_length, List.findIdx?_nil, cond_false]
theorem told45 (nt : Nat) : Facts nt 45 (sp45 nt) := fun args h rs h' hv => by
  unfold sp45 at hv
  split at hv
  · rename_i T C l b k n s vt vc vl r
    cases hb : (Nat.blt (szR l) big2 && Nat.blt (szR vl) big2 && (!C.nl || empty l))
    · rw [hb] at hv; cases hv
    · rw [hb] at hv
      simp only [Bool.and_eq_true] at hb
      obtain ⟨⟨hl2, hv2⟩, hnl⟩ := hb
      have hl1 : Nat.blt (szR l) big = true := by rw [nblt] at hl2 ⊢; unfold big2 at hl2; unfold big; omega
      have hv1 : Nat.blt (szR vl) huge = true := by rw [nblt] at hv2 ⊢; unfold big2 at hv2; unfold huge; omega
      have hlen : l.length ≤ szR l := szR_len l
      have hl3 := hl2
      rw [nblt] at hl3
      refine fact_tab Try.func45 [⟨40, sp40, told40 nt⟩, ⟨38, sp38, told38 nt⟩, ⟨64, sp64, told64 nt⟩, ⟨89, sp89 nt, told89 nt⟩, ⟨85, sp85 nt, told85 nt⟩] (l.length + 1) ?_
      rw [f45_q, ← hv]
      generalize hX : tab [⟨40, sp40, told40 nt⟩, ⟨38, sp38, told38 nt⟩, ⟨64, sp64, told64 nt⟩, ⟨89, sp89 nt, told89 nt⟩, ⟨85, sp85 nt, told85 nt⟩] = X
      have x40 : X 40 [.ps T 73 C l] [] = some ([.bool (mayNames (nmsOf l))], []) := by rw [← hX, tab_hit]; simp only [sp40, hl1, cond_true]
      have x38 : X 38 [.str b] [] = some ([.bool (mayName b)], []) := by rw [← hX, tab_miss rfl, tab_hit]; rfl
      have x64 : X 64 [.agg [.int .u8 k, .int .i64 n, .str s, .ps vt 34 vc vl, .int .i64 r]] [] = some ([.bool (mayV (.mk k n s (vlsOf vl) r))], []) := by rw [← hX, tab_miss rfl, tab_miss rfl, tab_hit]; simp only [sp64, hv1, cond_true]
      have x89 : X 89 [.ps T 73 C l] [] = some ([.own 0 0], [.arr 73 (l.map (ownN nt)) ⟨C.nl, C.nl⟩ 0 0]) := by
        rw [← hX, tab_miss rfl, tab_miss rfl, tab_miss rfl, tab_hit]
        simp only [sp89, hl2, cond_true]
        cases hc : C.nl
        · rfl
        · rw [hc] at hnl
          cases l with
          | nil => rfl
          | cons x xs => simp [empty] at hnl
      have x85 : mayV (.mk k n s (vlsOf vl) r) = true → X 85 [.agg [.int .u8 k, .int .i64 n, .str s, .ps vt 34 vc vl, .int .i64 r]] [] = some ([.agg (ownC nt k n s vl r), .int .i64 0], []) := fun hm => by
        rw [← hX, tab_miss rfl, tab_miss rfl, tab_miss rfl, tab_miss rfl, tab_hit]; simp only [sp85, hv2, hm, cond_true, ownC]
      clear hX
      simp only [cond_true, f45, f45_R, x40, x38, x64, Option.bind_some, toB_bool, toCells_bool, nth_zero, set45]
      cases mayNames (nmsOf l)
      · rfl
      cases mayName b
      · rfl
      cases hm : mayV (.mk k n s (vlsOf vl) r)
      · rfl
      simp only [Bool.not_true, cond_false, f45_J2, x89, x85 hm, Option.bind_some, Bool.and_self, cond_true]
      have hloop := f45_loop (nt := nt) (n := l.length + 1) (X := X) (cc := ⟨C.nl, C.nl⟩) (b := b) (x0 := f45_6_P0 nt X (l.length + 1) b ([.own 0 0], [.arr 73 (l.map (ownN nt)) ⟨C.nl, C.nl⟩ 0 0]) ([.agg (ownC nt k n s vl r), .int .i64 0], [])) (x1 := fun i21 => f45_6_P1 nt X (l.length + 1) ([.own 0 0], [.arr 73 (l.map (ownN nt)) ⟨C.nl, C.nl⟩ 0 0]) ([.agg (ownC nt k n s vl r), .int .i64 0], []) i21) (l := l) (by omega) (l.length + 1) 0 (by omega) (by omega)
      simp only [List.drop_zero, Nat.zero_add, Int.natCast_zero, Int.ofNat_zero] at hloop
      rw [hloop]
      have hany := find_idx (isNm b) l
      have hr : (nth AObj.dead (Prod.snd (([AV.own 0 0], [AObj.arr 73 (l.map (ownN nt)) ⟨C.nl, C.nl⟩ 0 0]) : List AV × List AObj)) 0) = AObj.arr 73 (l.map (ownN nt)) ⟨C.nl, C.nl⟩ 0 0 := rfl
      have hll : (l.map (ownN nt)).length = l.length := by simp
      cases hf : l.findIdx? (isNm b) with
      | none =>
        rw [hf] at hany
        have hbl : Nat.ble ((l.length + 1) * 80) 1099511627776 = true := by rw [nble]; unfold big2 at hl3; omega
        simp only [← hany, Option.isSome_none, cond_false, f45_6_P0, hr, AObj.toRows, AObj.toC, hll, hbl, cond_true, ownC, toCells_agg, nth_zero, nth_1, nth_2, nth_3, nth_4, toI_int, toS_str, toTg_ps, toCp_ps, toR_ps, setRows', hf]
        cases decide ((64 : Int) ≤ (l.length : Int)) <;> rfl
      | some i =>
        rw [hf] at hany
        have hi : i < l.length := by
          have := List.findIdx?_eq_some_iff_getElem.1 hf
          exact this.1
        have hnm : (nth .u (nth [] (l.map (ownN nt)) i) 0).toS = b := by
          rw [nth_get (s := l.map (ownN nt)) (by rw [hll]; exact hi), List.getElem_map]
          have h1 := (List.findIdx?_eq_some_iff_getElem.1 hf).2.1
          exact of_decide_eq_true h1
        simp only [← hany, Option.isSome_some, cond_true, f45_6_P1, hr, AObj.toRows, AObj.toC, Int.toNat_natCast, hnm, ownC, toCells_agg, nth_zero, nth_1, nth_2, nth_3, nth_4, toI_int, toS_str, toTg_ps, toCp_ps, toR_ps, setRows', hf]
  · cases hv
end Go.Ev.T
