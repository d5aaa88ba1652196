/- Plain lemmas for the decompiled texts: loops over lists, wraps. -/
import Derived.Test.YtljiamlnpmhpmaaSpec0
set_option linter.unusedVariables false
namespace Go.Ev
open Go

theorem wrap_i64 {n : Int} (h0 : -9223372036854775808 ≤ n) (h1 : n ≤ 9223372036854775807) : IntKind.wrap .i64 n = n := by
  simp [IntKind.wrap, IntKind.signed, IntKind.bits]; omega
theorem wrap_i64_nat {k : Nat} (h : k < 4611686018427387904) : IntKind.wrap .i64 ((k : Int) + 1) = ((k + 1 : Nat) : Int) := by
  rw [wrap_i64 (by omega) (by omega)]; omega
theorem byteRows_len (s : List UInt8) : (byteRows s).length = s.length := by simp [byteRows]
theorem nth_byteRows {s : List UInt8} {k : Nat} (h : k < s.length) : nth [] (byteRows s) k = [.int .u8 ((s[k]).toNat : Int)] := by
  rw [nth_getElem?]; simp [byteRows, h]
theorem nth_get {α : Type} {d : α} {s : List α} {k : Nat} (h : k < s.length) : nth d s k = s[k] := by
  rw [nth_getElem?]; simp [h]
theorem toI_int (k : IntKind) (n : Int) : AV.toI (.int k n) = n := rfl
theorem toB_bool (b : Bool) : AV.toB (.bool b) = b := rfl
theorem toS_str (s : List UInt8) : AV.toS (.str s) = s := rfl
theorem toR_ps (t e : Nat) (c : Cp) (l : List Row) : AV.toR (.ps t e c l) = l := rfl
theorem toCells_agg (cs : List AV) : AV.toCells (.agg cs) = cs := rfl
theorem toCells_int (k : IntKind) (n : Int) : AV.toCells (.int k n) = [.int k n] := rfl
theorem toCells_bool (b : Bool) : AV.toCells (.bool b) = [.bool b] := rfl
theorem toCells_str (s : List UInt8) : AV.toCells (.str s) = [.str s] := rfl
theorem toCells_ps (t e : Nat) (c : Cp) (l : List Row) : AV.toCells (.ps t e c l) = [.ps t e c l] := rfl
theorem toRow_box (e : Nat) (r : Row) : AObj.toRow (.box e r) = r := rfl
theorem nth_zero {α : Type} (d x : α) (xs : List α) : nth d (x :: xs) 0 = x := rfl
theorem nth_succ {α : Type} (d x : α) (xs : List α) (n : Nat) : nth d (x :: xs) (n + 1) = nth d xs n := rfl
theorem nth_1 {α : Type} (d x : α) (xs : List α) : nth d (x :: xs) 1 = nth d xs 0 := rfl
theorem nth_2 {α : Type} (d x : α) (xs : List α) : nth d (x :: xs) 2 = nth d xs 1 := rfl
theorem nth_3 {α : Type} (d x : α) (xs : List α) : nth d (x :: xs) 3 = nth d xs 2 := rfl
theorem nth_4 {α : Type} (d x : α) (xs : List α) : nth d (x :: xs) 4 = nth d xs 3 := rfl
namespace T
theorem tab_hit {nt f : Nat} {s : Sp} {ok : Facts nt f s} {ts : List (Told nt)} {args : List AV} {h : List AObj} : tab (⟨f, s, ok⟩ :: ts) f args h = s args h := by
  simp only [tab, Nat.beq_refl, cond_true]
theorem tab_miss {nt f g : Nat} {s : Sp} {ok : Facts nt f s} {ts : List (Told nt)} {args : List AV} {h : List AObj} (hf : Nat.beq g f = false) : tab (⟨f, s, ok⟩ :: ts) g args h = tab ts g args h := by
  simp only [tab, hf, cond_false]
end T
end Go.Ev
