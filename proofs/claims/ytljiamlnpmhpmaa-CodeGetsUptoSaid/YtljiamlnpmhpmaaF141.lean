/- Function 141 (the form of a Make), decompiled, and what it comes to. -/
import Derived.Test.YtljiamlnpmhpmaaStmt
import Derived.Test.YtljiamlnpmhpmaaD141
set_option linter.unusedVariables false
set_option linter.unusedSimpArgs false
noncomputable section
namespace Go.Ev
def whc1 (wh : Int) : Bool := decide (wh = 1)
def whc2 (wh : Int) : Bool := decide (wh = 2) || decide (wh = 3) || decide (wh = 4) || decide (wh = 8)
def whc3 (wh : Int) : Bool := decide (wh = 14)
def whc4 (wh : Int) : Bool := decide (wh = 15) || decide (wh = 16)
def whc5 (wh : Int) : Bool := decide (wh = 5) || decide (wh = 10)
def whc6 (wh : Int) : Bool := decide (wh = 12)
end Go.Ev
namespace Go.Ev.T
open Go Go.Ev Go.Proofs
def sp141 : Sp
  | [.agg [.int .u8 op, .str nm, .str sec, .int .u8 ab, .int .u8 wh, .int .u8 k, .int .i64 n, .str s, .ps t 26 c l, .int .u8 k2, .int .i64 n2, .str s2, .ps t2 26 c2 l2, .ps t3 58 c3 l3, .ps t4 58 c4 l4, .ps t5 58 c5 l5, .ps t6 9 c6 l6]], [] => bif gS ab l l2 l6 then (bif whc1 wh then some ([.agg [.int .u8 0, .str nm, .str [], .int .u8 0, .int .u8 wh, .int .u8 k, .int .i64 n, .str s, .ps t 26 c l, .int .u8 0, .int .i64 0, .str [], .ps 0 26 ⟨true, true⟩ [], .ps 0 58 ⟨true, true⟩ [], .ps 0 58 ⟨true, true⟩ [], .ps 0 58 ⟨true, true⟩ [], .ps 0 9 ⟨true, true⟩ []], .bool (mayName nm && orNoEx (.mk k n s (exsOf l)))], []) else bif whc2 wh then some ([.agg [.int .u8 0, .str nm, .str [], .int .u8 0, .int .u8 wh, .int .u8 0, .int .i64 0, .str [], .ps 0 26 ⟨true, true⟩ [], .int .u8 0, .int .i64 0, .str [], .ps 0 26 ⟨true, true⟩ [], .ps 0 58 ⟨true, true⟩ [], .ps 0 58 ⟨true, true⟩ [], .ps 0 58 ⟨true, true⟩ [], .ps 0 9 ⟨true, true⟩ []], .bool (mayName nm)], []) else bif whc3 wh then some ([.agg [.int .u8 0, .str nm, .str [], .int .u8 ab, .int .u8 wh, .int .u8 k, .int .i64 n, .str s, .ps t 26 c l, .int .u8 0, .int .i64 0, .str [], .ps 0 26 ⟨true, true⟩ [], .ps 0 58 ⟨true, true⟩ [], .ps 0 58 ⟨true, true⟩ [], .ps 0 58 ⟨true, true⟩ [], .ps 0 9 ⟨true, true⟩ []], .bool (mayName nm && mayEx (.mk k n s (exsOf l)) && mayAb ab)], []) else bif whc4 wh then some ([.agg [.int .u8 0, .str nm, .str sec, .int .u8 0, .int .u8 wh, .int .u8 k, .int .i64 n, .str s, .ps t 26 c l, .int .u8 0, .int .i64 0, .str [], .ps 0 26 ⟨true, true⟩ [], .ps 0 58 ⟨true, true⟩ [], .ps 0 58 ⟨true, true⟩ [], .ps 0 58 ⟨true, true⟩ [], .ps 0 9 ⟨true, true⟩ []], .bool (mayName nm && mayEx (.mk k n s (exsOf l)) && mayName sec && !decide (sec = nm))], []) else bif whc5 wh then some ([.agg [.int .u8 0, .str nm, .str sec, .int .u8 0, .int .u8 wh, .int .u8 0, .int .i64 0, .str [], .ps 0 26 ⟨true, true⟩ [], .int .u8 0, .int .i64 0, .str [], .ps 0 26 ⟨true, true⟩ [], .ps 0 58 ⟨true, true⟩ [], .ps 0 58 ⟨true, true⟩ [], .ps 0 58 ⟨true, true⟩ [], .ps 0 9 ⟨true, true⟩ []], .bool (mayName nm && mayName sec && !decide (sec = nm))], []) else bif whc6 wh then some ([.agg [.int .u8 0, .str nm, .str [], .int .u8 0, .int .u8 wh, .int .u8 0, .int .i64 0, .str [], .ps 0 26 ⟨true, true⟩ [], .int .u8 0, .int .i64 0, .str [], .ps 0 26 ⟨true, true⟩ [], .ps 0 58 ⟨true, true⟩ [], .ps 0 58 ⟨true, true⟩ [], .ps t5 58 c5 l5, .ps t6 9 c6 l6], .bool (mayName nm && decide ((l6.length : Int) ≤ 64) && (strsOf l6).all mayName && !twice (strsOf l6))], []) else some ([.agg [.int .u8 0, .str nm, .str [], .int .u8 0, .int .u8 wh, .int .u8 0, .int .i64 0, .str [], .ps 0 26 ⟨true, true⟩ [], .int .u8 0, .int .i64 0, .str [], .ps 0 26 ⟨true, true⟩ [], .ps 0 58 ⟨true, true⟩ [], .ps 0 58 ⟨true, true⟩ [], .ps 0 58 ⟨true, true⟩ [], .ps 0 9 ⟨true, true⟩ []], .bool (false)], [])) else none
  | _, _ => none
theorem told141 (nt : Nat) : Facts nt 141 sp141 := fun args h rs h' hv => by
  unfold sp141 at hv
  split at hv
  · rename_i op nm sec ab wh k n s t c l k2 n2 s2 t2 c2 l2 t3 c3 l3 t4 c4 l4 t5 c5 l5 t6 c6 l6
    cases hb : gS ab l l2 l6
    · rw [hb] at hv; cases hv
    · rw [hb] at hv
      obtain ⟨g1, g2, g3, g4⟩ := gS_iff hb
      refine fact_tab Try.func141 (TS nt) 1 ?_
      rw [f141_q, ← hv]
      simp only [f141_C1, f141_C2, f141_C3, f141_C4, f141_C5, f141_C6, f141_C7, f141_C8, f141_C9, f141_C0_R, f141_C0, f141_R, f141, ts38, ts21 g1, ts62 g1, ts145, ts86 g3, ts87 g3, Option.bind_some, toB_bool, toCells_bool, nth_zero, cond_true]
      generalize mayName nm = b1
      generalize mayEx (.mk k n s (exsOf l)) = b2
      generalize orNoEx (.mk k n s (exsOf l)) = b3
      generalize mayName sec = b4
      generalize mayAb ab = b5
      generalize decide (sec = nm) = b6
      generalize decide ((l6.length : Int) ≤ 64) = b7
      generalize (strsOf l6).all mayName = b8
      generalize twice (strsOf l6) = b9
      by_cases h1 : wh = 1
      · subst h1
        cases b1 <;> cases b3 <;> rfl
      by_cases h2 : wh = 2
      · subst h2
        cases b1 <;> rfl
      by_cases h3 : wh = 3
      · subst h3
        cases b1 <;> rfl
      by_cases h4 : wh = 4
      · subst h4
        cases b1 <;> rfl
      by_cases h8 : wh = 8
      · subst h8
        cases b1 <;> rfl
      by_cases h14 : wh = 14
      · subst h14
        cases b1 <;> cases b2 <;> cases b5 <;> rfl
      by_cases h15 : wh = 15
      · subst h15
        cases b1 <;> cases b2 <;> cases b4 <;> rfl
      by_cases h16 : wh = 16
      · subst h16
        cases b1 <;> cases b2 <;> cases b4 <;> rfl
      by_cases h5 : wh = 5
      · subst h5
        cases b1 <;> cases b4 <;> rfl
      by_cases h10 : wh = 10
      · subst h10
        cases b1 <;> cases b4 <;> rfl
      by_cases h12 : wh = 12
      · subst h12
        cases b1 <;> cases b7 <;> cases b8 <;> rfl
      simp only [whc1, whc2, whc3, whc4, whc5, whc6, h1, h2, h3, h4, h8, h14, h15, h16, h5, h10, h12, decide_false, Bool.or_self, cond_false]
  · cases hv
end Go.Ev.T
