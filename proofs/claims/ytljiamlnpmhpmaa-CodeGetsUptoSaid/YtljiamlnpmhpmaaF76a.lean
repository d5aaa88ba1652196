/- Function 76: whether a statement may be, its blocks not being looked at. -/
import Derived.Test.YtljiamlnpmhpmaaF76m
import Derived.Test.YtljiamlnpmhpmaaF76x
set_option linter.unusedVariables false
set_option linter.unusedSimpArgs false
noncomputable section
namespace Go.Ev
def mayS (op : Int) (nm sec : List UInt8) (ab wh : Int) (a b : Ex) (n3 n4 n5 n6 : Nat) (ws : List (List UInt8)) : Bool :=
  bif decide (op = 1) then may1 nm sec ab wh a b n3 n4 n5 n6 else bif decide (op = 2) then may2 nm sec ab wh a b n3 n4 n5 n6 else bif decide (op = 3) then may3 nm sec ab wh a b n3 n4 n5 n6 ws
  else bif decide (op = 4) then may4 nm sec ab wh a b n3 n4 n5 n6 else bif decide (op = 5) then may5 nm sec ab wh a b n3 n4 n5 n6 else bif decide (op = 6) then may6 nm sec ab wh a b n3 n4 n5 n6
  else bif decide (op = 7) then may7 nm sec ab wh a b n3 n4 n5 n6 else bif decide (op = 8) then may8 nm sec ab wh a b n3 n4 n5 n6 else bif decide (op = 9) then may9 nm sec ab wh a b n3 n4 n5 n6 else false
/-- whether a statement may be, its blocks not being looked at -/
def maySm : Sm → Bool
  | .mk op nm sec ab wh a b t e c ws => mayS op nm sec ab wh a b t.length e.length c.length ws.length ws
end Go.Ev
namespace Go.Ev.T
open Go Go.Ev Go.Proofs
def sp76 : Sp
  | [.agg [.int .u8 op, .str nm, .str sec, .int .u8 ab, .int .u8 wh, .int .u8 k, .int .i64 n, .str s, .ps t 26 c l, .int .u8 k2, .int .i64 n2, .str s2, .ps t2 26 c2 l2, .ps t3 58 c3 l3, .ps t4 58 c4 l4, .ps t5 58 c5 l5, .ps t6 9 c6 l6]], [] => bif gS ab l l2 l6 then some ([.bool (maySm (.mk op nm sec ab wh (.mk k n s (exsOf l)) (.mk k2 n2 s2 (exsOf l2)) (smsOf l3) (smsOf l4) (smsOf l5) (strsOf l6)))], []) else none
  | _, _ => none
theorem told76 (nt : Nat) : Facts nt 76 sp76 := fun args h rs h' hv => by
  unfold sp76 at hv
  split at hv
  · rename_i op nm sec ab wh k n s t c l k2 n2 s2 t2 c2 l2 t3 c3 l3 t4 c4 l4 t5 c5 l5 t6 c6 l6
    cases hb : gS ab l l2 l6
    · rw [hb] at hv; cases hv
    · rw [hb] at hv
      have n3 : (smsOf l3).length = l3.length := by simp [smsOf]
      have n4 : (smsOf l4).length = l4.length := by simp [smsOf]
      have n5 : (smsOf l5).length = l5.length := by simp [smsOf]
      have n6 : (strsOf l6).length = l6.length := by simp [strsOf]
      simp only [cond_true, maySm, mayS, n3, n4, n5, n6, Option.some.injEq, Prod.mk.injEq] at hv
      obtain ⟨rfl, rfl⟩ := hv
      by_cases h1 : op = 1
      · subst h1
        exact may1_fact hb
      by_cases h2 : op = 2
      · subst h2
        exact may2_fact hb
      by_cases h3 : op = 3
      · subst h3
        exact may3_fact hb
      by_cases h4 : op = 4
      · subst h4
        exact may4_fact hb
      by_cases h5 : op = 5
      · subst h5
        exact may5_fact hb
      by_cases h6 : op = 6
      · subst h6
        exact may6_fact hb
      by_cases h7 : op = 7
      · subst h7
        exact may7_fact hb
      by_cases h8 : op = 8
      · subst h8
        exact may8_fact hb
      by_cases h9 : op = 9
      · subst h9
        exact may9_fact hb
      simp only [h1, h2, h3, h4, h5, h6, h7, h8, h9, decide_false, cond_false]
      exact mayX_fact ⟨h1, h2, h3, h4, h5, h6, h7, h8, h9⟩
  · cases hv
end Go.Ev.T
