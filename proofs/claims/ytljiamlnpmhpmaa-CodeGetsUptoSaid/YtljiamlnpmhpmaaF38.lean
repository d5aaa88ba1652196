/- Function 38, decompiled. -/
import Derived.Test.YtljiamlnpmhpmaaExpr
set_option linter.unusedVariables false
set_option linter.unusedSimpArgs false
namespace Go.Ev.T
open Go Go.Ev Go.Proofs
def f38_4_S (nt : Nat) (a : List UInt8) (i7 : Int) : St := St.mk [AV.u, AV.u, AV.u, AV.u, AV.u, AV.u, AV.u, AV.u, AV.u, AV.u, AV.u, AV.u, AV.u, AV.u, AV.u, AV.u, AV.u, AV.u, AV.u, AV.u, AV.u, AV.u, AV.u, AV.ps nt 5 (Cp.mk false false) (byteRows a), AV.int IntKind.i64 (↑(List.length (byteRows a)) : Int), AV.int IntKind.i64 i7, AV.u, AV.u, AV.u, AV.u, AV.u, AV.u, AV.u, AV.u, AV.u, AV.u, AV.u, AV.u, AV.u, AV.u, AV.u, AV.u, AV.u, AV.u] []
def f38_4_X0  : St := St.mk [AV.u, AV.u, AV.u, AV.u, AV.u, AV.u, AV.u, AV.u, AV.u, AV.u, AV.u, AV.u, AV.u, AV.u, AV.u, AV.u, AV.u, AV.u, AV.u, AV.u, AV.u, AV.u, AV.u, AV.u, AV.u, AV.u, AV.u, AV.u, AV.u, AV.u, AV.u, AV.u, AV.u, AV.u, AV.u, AV.u, AV.u, AV.u, AV.u, AV.u, AV.u, AV.u, AV.u, AV.u] []
def f38_4_X1  : St := St.mk [AV.u, AV.u, AV.bool false, AV.u, AV.u, AV.u, AV.u, AV.u, AV.u, AV.u, AV.u, AV.u, AV.u, AV.u, AV.u, AV.u, AV.u, AV.u, AV.u, AV.u, AV.u, AV.u, AV.u, AV.u, AV.u, AV.u, AV.u, AV.u, AV.u, AV.u, AV.u, AV.u, AV.u, AV.u, AV.u, AV.u, AV.u, AV.u, AV.u, AV.u, AV.u, AV.u, AV.u, AV.u] []
def f38_J7 {ρ : Type} (nt : Nat) (X : Call') (n : Nat) (kN : Int → Option ρ) (x1 : Option ρ) (i7 : Int) (b8 : Bool) : Option ρ :=
  (bif b8 then x1  else kN (IntKind.wrap IntKind.i64 (i7 + 1)))
def f38_4 {ρ : Type} (nt : Nat) (X : Call') (n : Nat) (kN : Int → Option ρ) (x1 : Option ρ) (x0 : Option ρ) (a : List UInt8) (i7 : Int) : Option ρ :=
  (bif decide (i7 < (↑(List.length (byteRows a)) : Int)) then (bif decide (0 ≤ i7) && decide (i7 < (↑(List.length (byteRows a)) : Int)) then (bif decide (AV.toI (nth AV.u (nth [] (byteRows a) (Int.toNat i7)) 0) < 97) then (bif decide (AV.toI (nth AV.u (nth [] (byteRows a) (Int.toNat i7)) 0) < 48) then f38_J7 nt X n kN x1 i7 (true) else f38_J7 nt X n kN x1 i7 (decide (57 < AV.toI (nth AV.u (nth [] (byteRows a) (Int.toNat i7)) 0)))) else (bif decide (122 < AV.toI (nth AV.u (nth [] (byteRows a) (Int.toNat i7)) 0)) then (bif decide (AV.toI (nth AV.u (nth [] (byteRows a) (Int.toNat i7)) 0) < 48) then f38_J7 nt X n kN x1 i7 (true) else f38_J7 nt X n kN x1 i7 (decide (57 < AV.toI (nth AV.u (nth [] (byteRows a) (Int.toNat i7)) 0)))) else f38_J7 nt X n kN x1 i7 (false))) else none) else x0 )
theorem f38_4_q {ρ : Type} (nt : Nat) (X : Call') (n : Nat) (kN : St → Option ρ) (kX : Nat → St → Option ρ) (kR : St → Option ρ) (a : List UInt8) (i7 : Int) : stepL ⟨L, F, nt, X⟩ ⟨0, lookV V 38⟩ n (subc (bodyOf Try.f38) [1, 1, 0, 1, 0, 0]) (look (lookV V 38) 4).xl kX kR (fun s => kN ((clean 0 0 (look (lookV V 38) 4) []) s)) (f38_4_S nt a i7) = f38_4 nt X n (fun i7 => kN (f38_4_S nt a i7)) (kR (f38_4_X1 )) (kX 0 (f38_4_X0 )) a i7 := by kernel_rfl
def f38_4_L {ρ : Type} (nt : Nat) (X : Call') (n : Nat) (x0 : Option ρ) (x1 : Option ρ) (a : List UInt8) : Nat → Int → Option ρ
  | 0, _ => none
  | m + 1, i7 => f38_4 nt X n (fun i7 => f38_4_L nt X n x0 x1 a m i7) x1 x0 a i7
theorem f38_4_e {ρ : Type} (nt : Nat) (X : Call') (n : Nat) (kX : Nat → St → Option ρ) (kR : St → Option ρ) (a : List UInt8) (m : Nat) (i7 : Int) : loopN (stepL ⟨L, F, nt, X⟩ ⟨0, lookV V 38⟩ n (subc (bodyOf Try.f38) [1, 1, 0, 1, 0, 0]) (look (lookV V 38) 4).xl kX kR) (clean 0 0 (look (lookV V 38) 4) []) m (f38_4_S nt a i7) = f38_4_L nt X n (kX 0 (f38_4_X0 )) (kR (f38_4_X1 )) a m i7 :=
  loopN_ind (α := Int) (fun w => ((fun i7 => (f38_4_S nt a i7))) w) (fun k w => ((fun i7 => f38_4 nt X n (fun i7 => k (i7)) (kR (f38_4_X1 )) (kX 0 (f38_4_X0 )) a i7)) w) (fun m w => ((fun i7 => f38_4_L nt X n (kX 0 (f38_4_X0 )) (kR (f38_4_X1 )) a m i7)) w) (fun _ => rfl) (fun _ _ => rfl) (fun kN w => ((fun i7 => f38_4_q nt X n kN kX kR a i7)) w) m (i7)
def f38_4_P0 (nt : Nat) (X : Call') (n : Nat)  : Option (List AV × List AObj) :=
  some (([AV.bool true], []))
theorem f38_4_P0_q (nt : Nat) (X : Call') (n : Nat)  : (kNf ⟨L, F, nt, X⟩ ⟨0, lookV V 38⟩ n (finish ⟨L, F, nt, X⟩ Try.f38 (sig F 38).res []) (finish ⟨L, F, nt, X⟩ Try.f38 (sig F 38).res []) (fun _ _ => none) [.block 0, .seq (subc (bodyOf Try.f38) [1, 1, 1])]).2 0 (f38_4_X0 ) = f38_4_P0 nt X n  := by kernel_rfl
def f38_4_P1 (nt : Nat) (X : Call') (n : Nat)  : Option (List AV × List AObj) :=
  some (([AV.bool false], []))
theorem f38_4_P1_q (nt : Nat) (X : Call') (n : Nat)  : (finish ⟨L, F, nt, X⟩ Try.f38 (sig F 38).res []) (f38_4_X1 ) = f38_4_P1 nt X n  := by kernel_rfl
def f38_J2 (nt : Nat) (X : Call') (n : Nat) (L0 : Int → Option (List AV × List AObj))  (b5 : Bool) : Option (List AV × List AObj) :=
  (bif b5 then some (([AV.bool false], [])) else L0  (0))
def f38_R (nt : Nat) (X : Call') (n : Nat) (L0 : Int → Option (List AV × List AObj)) (a : List UInt8) : Option (List AV × List AObj) :=
  (bif decide (a = []) then f38_J2 nt X n L0  (true) else (bif decide (32 < (↑(List.length a) : Int)) then f38_J2 nt X n L0  (true) else (bif decide (0 < (↑(List.length a) : Int)) then (bif decide ((↑(UInt8.toNat (nth (UInt8.ofNat 0) a 0)) : Int) < 97) then f38_J2 nt X n L0  (true) else (bif decide (0 < (↑(List.length a) : Int)) then f38_J2 nt X n L0  (decide (122 < (↑(UInt8.toNat (nth (UInt8.ofNat 0) a 0)) : Int))) else none)) else none)))
def f38 (nt : Nat) (X : Call') (n : Nat) (a : List UInt8) : Option (List AV × List AObj) :=
  f38_R nt X n (fun i7 => f38_4_L nt X n (f38_4_P0 nt X n ) (f38_4_P1 nt X n ) a n i7) a
theorem f38_q (nt : Nat) (X : Call') (n : Nat) (a : List UInt8) : evBody ⟨L, F, nt, X⟩ (lookV V 38) n Try.f38 (sig F 38).res [AV.str a] [] = f38 nt X n a :=
  Eq.trans (b := f38_R nt X n (fun i7 => loopN (stepL ⟨L, F, nt, X⟩ ⟨0, lookV V 38⟩ n (subc (bodyOf Try.f38) [1, 1, 0, 1, 0, 0]) (look (lookV V 38) 4).xl (kNf ⟨L, F, nt, X⟩ ⟨0, lookV V 38⟩ n (finish ⟨L, F, nt, X⟩ Try.f38 (sig F 38).res []) (finish ⟨L, F, nt, X⟩ Try.f38 (sig F 38).res []) (fun _ _ => none) [.block 0, .seq (subc (bodyOf Try.f38) [1, 1, 1])]).2 (finish ⟨L, F, nt, X⟩ Try.f38 (sig F 38).res [])) (clean 0 0 (look (lookV V 38) 4) []) n (f38_4_S nt a i7)) a) (by kernel_rfl) (congrArg (fun q => q a) (congrArg (f38_R nt X n ) (show (fun i7 => loopN (stepL ⟨L, F, nt, X⟩ ⟨0, lookV V 38⟩ n (subc (bodyOf Try.f38) [1, 1, 0, 1, 0, 0]) (look (lookV V 38) 4).xl (kNf ⟨L, F, nt, X⟩ ⟨0, lookV V 38⟩ n (finish ⟨L, F, nt, X⟩ Try.f38 (sig F 38).res []) (finish ⟨L, F, nt, X⟩ Try.f38 (sig F 38).res []) (fun _ _ => none) [.block 0, .seq (subc (bodyOf Try.f38) [1, 1, 1])]).2 (finish ⟨L, F, nt, X⟩ Try.f38 (sig F 38).res [])) (clean 0 0 (look (lookV V 38) 4) []) n (f38_4_S nt a i7)) = _ from funext fun i7 => (f38_4_e nt X n (kNf ⟨L, F, nt, X⟩ ⟨0, lookV V 38⟩ n (finish ⟨L, F, nt, X⟩ Try.f38 (sig F 38).res []) (finish ⟨L, F, nt, X⟩ Try.f38 (sig F 38).res []) (fun _ _ => none) [.block 0, .seq (subc (bodyOf Try.f38) [1, 1, 1])]).2 (finish ⟨L, F, nt, X⟩ Try.f38 (sig F 38).res []) a n i7).trans (congrArg (fun q => q a n i7) (congr (congrArg (f38_4_L nt X n) (show ((kNf ⟨L, F, nt, X⟩ ⟨0, lookV V 38⟩ n (finish ⟨L, F, nt, X⟩ Try.f38 (sig F 38).res []) (finish ⟨L, F, nt, X⟩ Try.f38 (sig F 38).res []) (fun _ _ => none) [.block 0, .seq (subc (bodyOf Try.f38) [1, 1, 1])]).2 0 (f38_4_X0 )) = (f38_4_P0 nt X n ) from (f38_4_P0_q nt X n ))) (show ((finish ⟨L, F, nt, X⟩ Try.f38 (sig F 38).res []) (f38_4_X1 )) = (f38_4_P1 nt X n ) from (f38_4_P1_q nt X n )))))))

theorem f38_loop {ρ : Type} {nt : Nat} {X : Call'} {n : Nat} {x0 x1 : Option ρ} {s : List UInt8} (hs : s.length < 1000) : ∀ (m k : Nat), k ≤ s.length → s.length - k < m → f38_4_L nt X n x0 x1 s m k = bif (s.drop k).all okCh then x0 else x1
  | 0, k, h1, h2 => by omega
  | m + 1, k, h1, h2 => by
    by_cases hk : k < s.length
    · have ih := f38_loop (x0 := x0) (x1 := x1) (nt := nt) (X := X) (n := n) hs m (k + 1) (by omega) (by omega)
      have hw := wrap_i64_nat (k := k) (by omega)
      have h3 : decide ((k : Int) < ((byteRows s).length : Int)) = true := by rw [byteRows_len]; simp; omega
      rw [List.drop_eq_getElem_cons hk]
      simp only [f38_4_L, f38_4, h3, Int.toNat_natCast, nth_byteRows hk, nth, AV.toI, f38_J7, hw, ih, List.all_cons, okCh]
      cases decide (((s[k]).toNat : Int) < 97) <;> cases decide (122 < ((s[k]).toNat : Int)) <;> cases decide (((s[k]).toNat : Int) < 48) <;> cases decide (57 < ((s[k]).toNat : Int)) <;> simp
    · obtain rfl : k = s.length := by omega
      have h3 : decide (((s.length : Nat) : Int) < ((byteRows s).length : Int)) = false := by rw [byteRows_len]; simp
      simp only [f38_4_L, f38_4, h3, List.drop_length, List.all_nil, cond_false, cond_true]
theorem f38_spec (nt : Nat) (X : Call') (s : List UInt8) : f38 nt X 100 s = some ([.bool (mayName s)], []) := by
  cases s with
  | nil => rfl
  | cons c cs =>
    have hl := @f38_loop (List AV × List AObj) nt X 100 (f38_4_P0 nt X 100) (f38_4_P1 nt X 100) (c :: cs)
    have hc : (c :: cs).length = cs.length + 1 := rfl
    by_cases hlen : (c :: cs).length ≤ 32
    · have h1 : f38_4_L nt X 100 (f38_4_P0 nt X 100) (f38_4_P1 nt X 100) (c :: cs) 100 0 = bif (c :: cs).all okCh then f38_4_P0 nt X 100 else f38_4_P1 nt X 100 := hl (by omega) 100 0 (by omega) (by omega)
      have h2 : decide ((32 : Int) < (((c :: cs).length : Nat) : Int)) = false := by simp only [decide_eq_false_iff_not]; omega
      have h3 : decide (c :: cs = []) = false := by simp
      have h4 : decide ((0 : Int) < (((c :: cs).length : Nat) : Int)) = true := by simp only [decide_eq_true_eq]; omega
      have h5 : decide ((c :: cs).length ≤ 32) = true := by simpa using hlen
      simp only [f38, f38_R, f38_J2, mayName, nth, h1, h2, h3, h4, h5, cond_true, cond_false]
      by_cases ha : (c.toNat : Int) < 97 <;> by_cases hb : 122 < (c.toNat : Int) <;> cases (c :: cs).all okCh <;> simp [ha, hb, f38_4_P0, f38_4_P1]
    · have h2 : decide ((32 : Int) < (((c :: cs).length : Nat) : Int)) = true := by simp only [decide_eq_true_eq]; omega
      have h3 : decide (c :: cs = []) = false := by simp
      have h5 : decide ((c :: cs).length ≤ 32) = false := by simpa using hlen
      simp only [f38, f38_R, f38_J2, mayName, h2, h3, h5, cond_true, cond_false, Bool.false_and]
def sp38 : Sp
  | [.str s], [] => some ([.bool (mayName s)], [])
  | _, _ => none
theorem told38 (nt : Nat) : Facts nt 38 sp38 := fun args h rs h' hv => by
  unfold sp38 at hv
  split at hv
  · rename_i s
    refine fact_tab Try.func38 [] 100 ?_
    rw [f38_q, f38_spec]; exact hv
  · cases hv
end Go.Ev.T
