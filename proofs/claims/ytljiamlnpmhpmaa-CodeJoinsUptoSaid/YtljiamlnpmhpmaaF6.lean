/- Function 6 (CodeJoins): what it comes to. -/
import Derived.Test.YtljiamlnpmhpmaaD6
import Derived.Test.YtljiamlnpmhpmaaUses
import Derived.Test.YtljiamlnpmhpmaaF17
set_option linter.unusedVariables false
set_option linter.unusedSimpArgs false
noncomputable section
namespace Go.Ev
theorem T.szR_append : ∀ (a b : List Row), T.szR (a ++ b) = T.szR a + T.szR b
  | [], b => by simp [T.szR]
  | r :: a, b => by simp only [List.cons_append, T.szR, T.szR_append a b]; omega
theorem wfL_append : ∀ (a b : List Sm), wfL (a ++ b) = (wfL a && wfL b)
  | [], b => by simp [wfL]
  | s :: a, b => by simp only [List.cons_append, wfL, wfL_append a b, Bool.and_assoc]
theorem smsOf_append (a b : List Row) : smsOf (a ++ b) = smsOf a ++ smsOf b := by simp [smsOf]
theorem smsOf_get {a : List Row} {j : Nat} (h : j < a.length) : (smsOf a)[j]? = some (smOf (nth [] a j)) := by
  rw [nth_get h]; simp [smsOf, h]
theorem check_may {ss : List Sm} (h : mayC ss = true) : check ss = (0, 0) := by
  unfold mayC at h
  unfold check
  cases hq : ck (allS ss) 0 with
  | none => rfl
  | some p => rw [hq] at h; cases h
theorem check_zero {ss : List Sm} (h : mayC ss = true) : (check ss).2 = 0 := by rw [check_may h]
theorem check_nz {ss : List Sm} (h : mayC ss = false) : ¬ (check ss).2 = 0 := fun hq => by
  have := check_ok ss
  rw [h, hq] at this
  cases this
theorem check_join {l r : List Sm} (h : mayC l = true) (h' : mayC r = true) (h'' : mayC (l ++ r) = false) : check (l ++ r) = (512, 4) ∧ 512 < ((allS l).length : Int) + (allS r).length := by
  have g := (mayC_iff l).1 h
  have g' := (mayC_iff r).1 h'
  have ha : (allS (l ++ r)).all maySm = true := by rw [allS_append, List.all_append, g.1, g'.1]; rfl
  have hl : 512 < (allS (l ++ r)).length := by
    by_cases hq : (allS (l ++ r)).length ≤ 512
    · rw [(mayC_iff _).2 ⟨ha, hq⟩] at h''; cases h''
    · omega
  refine ⟨?_, ?_⟩
  · unfold check
    rw [ck_long _ 0 (by omega) (by omega) ha (by omega)]
    rfl
  · rw [allS_append, List.length_append] at hl; omega
theorem joins_len {l r : List Sm} (h'' : mayC (l ++ r) = true) : ((allS l).length : Int) + (allS r).length ≤ 512 := by
  have := ((mayC_iff _).1 h'').2
  rw [allS_append, List.length_append] at this
  omega
end Go.Ev
namespace Go.Ev.T
open Go Go.Ev Go.Proofs
def r35 (u : Int × Bool × Bool) (e : Int) : List AV × List AObj := ([.agg [.int .u8 u.1, .bool u.2.1, .bool u.2.2], .int .i64 e], [])
section
variable {ρ : Type} {nt n : Nat} {X : Call'} {a : List Row} {j : Nat} {u U : Int × Bool × Bool} {K : Option ρ} {x : List AV × List AObj → Option ρ}
theorem f6_k0 (e : X 35 [.ps (nth .u (nth [] a j) 13).toTg 58 (nth .u (nth [] a j) 13).toCp (nth .u (nth [] a j) 13).toR] [] = some (r35 u 0)) (h0 : bitsOf .andNot .u8 u.1 U.1 = 0) (h1 : u.2.1 = true → U.2.1 = true) (h2 : u.2.2 = true → U.2.2 = true) :
    f6_18k0 nt X n (fun _ => K) x a (r35 U 0) j = K := by
  obtain ⟨u0, u1, u2⟩ := u
  obtain ⟨U0, U1, U2⟩ := U
  simp only at h0 h1 h2
  simp only [f6_18k0, Int.toNat_natCast, e, r35, Option.bind_some, toI_int, toB_bool, toCells_agg, toCells_int, nth_zero, nth_1, nth_2, h0]
  cases u1 <;> cases u2 <;> cases U1 <;> cases U2 <;> simp_all [f6_J22]
theorem f6_k1 (e : X 35 [.ps (nth .u (nth [] a j) 14).toTg 58 (nth .u (nth [] a j) 14).toCp (nth .u (nth [] a j) 14).toR] [] = some (r35 u 0)) (h0 : bitsOf .andNot .u8 u.1 U.1 = 0) (h1 : u.2.1 = true → U.2.1 = true) (h2 : u.2.2 = true → U.2.2 = true) :
    f6_18k1 nt X n (fun _ => K) x a (r35 U 0) j = K := by
  obtain ⟨u0, u1, u2⟩ := u
  obtain ⟨U0, U1, U2⟩ := U
  simp only at h0 h1 h2
  simp only [f6_18k1, Int.toNat_natCast, e, r35, Option.bind_some, toI_int, toB_bool, toCells_agg, toCells_int, nth_zero, nth_1, nth_2, h0]
  cases u1 <;> cases u2 <;> cases U1 <;> cases U2 <;> simp_all [f6_J22_2]
theorem f6_k2 (e : X 35 [.ps (nth .u (nth [] a j) 15).toTg 58 (nth .u (nth [] a j) 15).toCp (nth .u (nth [] a j) 15).toR] [] = some (r35 u 0)) (h0 : bitsOf .andNot .u8 u.1 U.1 = 0) (h1 : u.2.1 = true → U.2.1 = true) (h2 : u.2.2 = true → U.2.2 = true) :
    f6_18k2 nt X n (fun _ => K) x a (r35 U 0) j = K := by
  obtain ⟨u0, u1, u2⟩ := u
  obtain ⟨U0, U1, U2⟩ := U
  simp only at h0 h1 h2
  simp only [f6_18k2, Int.toNat_natCast, e, r35, Option.bind_some, toI_int, toB_bool, toCells_agg, toCells_int, nth_zero, nth_1, nth_2, h0]
  cases u1 <;> cases u2 <;> cases U1 <;> cases U2 <;> simp_all [f6_J22_3]
end
theorem f6_loop {nt n : Nat} {X : Call'} {a : List Row} {x0 : Option (List AV × List AObj)} (hb : szR a < big) (hw : wfL (smsOf a) = true) (hm : mayC (smsOf a) = true)
    (hX : ∀ T C l, gC l = true → X 35 [.ps T 58 C l] [] = some (r35 (usesC (smsOf l)) (check (smsOf l)).2)) : ∀ (fu j : Nat), j ≤ a.length → a.length - j < fu →
    f6_14_L nt X n x0 a (r35 (usesC (smsOf a)) 0) fu j = x0
  | 0, j, h1, h2 => by omega
  | fu + 1, j, h1, h2 => by
    have hlen : a.length ≤ szR a := szR_len a
    by_cases hk : j < a.length
    · have hmm := nth_mem (d := []) hk
      have hs := sz_mem hmm
      have s13 := sz_nth (nth [] a j) 13
      have s14 := sz_nth (nth [] a j) 14
      have s15 := sz_nth (nth [] a j) 15
      have h3 : decide ((j : Int) < (a.length : Int)) = true := by simp only [decide_eq_true_eq]; omega
      have h4 : decide ((0 : Int) ≤ (j : Int)) = true := by simp only [decide_eq_true_eq]; omega
      have hwr : IntKind.wrap .i64 ((j : Int) + 1) = ((j + 1 : Nat) : Int) := wrap_i64_nat (k := j) (by unfold big at hb; omega)
      have hws : wfS (smOf (nth [] a j)) = true := wfL_mem hw (List.mem_map_of_mem hmm)
      have hget := smsOf_get hk
      rw [smOf_eq] at hws hget
      simp only [wfS, Bool.and_eq_true] at hws
      obtain ⟨⟨p1, q1, e1⟩, ⟨p2, q2, e2⟩, ⟨p3, q3, e3⟩⟩ := blocks_part hget
      have m1 := mayC_part hm e1
      have m2 := mayC_part hm e2
      have m3 := mayC_part hm e3
      obtain ⟨b1, c1, d1⟩ := uses_part hm m1 e1
      obtain ⟨b2, c2, d2⟩ := uses_part hm m2 e2
      obtain ⟨b3, c3, d3⟩ := uses_part hm m3 e3
      have g1 : gC (nth .u (nth [] a j) 13).toR = true := by simp only [gC, hws.1.1.2, Bool.and_true, nblt]; omega
      have g2 : gC (nth .u (nth [] a j) 14).toR = true := by simp only [gC, hws.1.2, Bool.and_true, nblt]; omega
      have g3 : gC (nth .u (nth [] a j) 15).toR = true := by simp only [gC, hws.2, Bool.and_true, nblt]; omega
      have x1 := hX (nth .u (nth [] a j) 13).toTg (nth .u (nth [] a j) 13).toCp _ g1
      have x2 := hX (nth .u (nth [] a j) 14).toTg (nth .u (nth [] a j) 14).toCp _ g2
      have x3 := hX (nth .u (nth [] a j) 15).toTg (nth .u (nth [] a j) 15).toCp _ g3
      rw [check_zero m1] at x1
      rw [check_zero m2] at x2
      rw [check_zero m3] at x3
      have ih := f6_loop (nt := nt) (n := n) (x0 := x0) hb hw hm hX fu (j + 1) (by omega) (by omega)
      simp only [f6_14_L, f6_14, f6_14_R, h3, h4, Bool.and_self, cond_true]
      rw [f6_18_U, f6_k0 x1 b1 c1 d1, f6_k1 x2 b2 c2 d2, f6_k2 x3 b3 c3 d3, f6_18_P0, hwr, ih]
    · obtain rfl : j = a.length := by omega
      have h3 : decide (((a.length : Nat) : Int) < (a.length : Int)) = false := by simp
      simp only [f6_14_L, f6_14, f6_14_R, h3, cond_false]
def g6 (a b : List Row) : Bool := gC a && gC b && Nat.blt (szR a + szR b) 2147483648
def sp6 : Sp
  | [.ps _ 58 _ a, .ps _ 58 _ b], [] => bif g6 a b then some ([.bool true], []) else none
  | _, _ => none
theorem told6 (nt : Nat) : Facts nt 6 sp6 := fun args h rs h' hv => by
  unfold sp6 at hv
  split at hv
  · rename_i aT aC a bT bC b
    cases hb : g6 a b
    · rw [hb] at hv; cases hv
    · rw [hb] at hv
      refine fact_tab Try.func6 [⟨35, sp35, told35 nt⟩, ⟨32, sp32, told32 nt⟩, ⟨28, sp28, told28 nt⟩, ⟨17, sp17, told17 nt⟩] (a.length + 1).succ.succ.succ.succ ?_
      rw [f6_q, ← hv]
      have hN : a.length < (a.length + 1).succ.succ.succ.succ := by omega
      revert hN
      generalize (a.length + 1).succ.succ.succ.succ = N
      intro hN
      generalize hX : tab [⟨35, sp35, told35 nt⟩, ⟨32, sp32, told32 nt⟩, ⟨28, sp28, told28 nt⟩, ⟨17, sp17, told17 nt⟩] = X
      have x35 : ∀ T C l, gC l = true → X 35 [.ps T 58 C l] [] = some (r35 (usesC (smsOf l)) (check (smsOf l)).2) := fun T C l hg => by
        rw [← hX, tab_hit]; simp only [sp35, hg, cond_true, r35]
      have x32 : ∀ T C l, gC l = true → X 32 [.ps T 58 C l] [] = some ([.int .i64 (sizeC (smsOf l))], []) := fun T C l hg => by
        rw [← hX, tab_miss rfl, tab_hit]; simp only [sp32, hg, cond_true]
      have x28 : ∀ T C l, gC l = true → X 28 [.ps T 58 C l] [] = some ([.int .i64 (check (smsOf l)).1, .int .i64 (check (smsOf l)).2], []) := fun T C l hg => by
        rw [← hX, tab_miss rfl, tab_miss rfl, tab_hit]; simp only [sp28, hg, cond_true]
      have x17 : X 17 [] [] = some ([.bool true], []) := by
        rw [← hX, tab_miss rfl, tab_miss rfl, tab_miss rfl, tab_hit]; rfl
      clear hX
      simp only [g6, Bool.and_eq_true, nblt] at hb
      obtain ⟨⟨ga, gb⟩, hsz⟩ := hb
      have gc : gC (a ++ b) = true := by
        have h1 := ga
        have h2 := gb
        simp only [gC, Bool.and_eq_true, nblt] at h1 h2 ⊢
        refine ⟨?_, ?_⟩
        · rw [szR_append]; unfold big; omega
        · rw [smsOf_append, wfL_append, h1.2, h2.2]; rfl
      have la := szR_len a
      have lb := szR_len b
      have n1 : Nat.ble ((0 + a.length) * 256) 1099511627776 = true := by rw [nble]; omega
      have n2 : Nat.ble ((a.length + b.length) * 256) 1099511627776 = true := by rw [nble]; omega
      simp only [cond_true, f6, f6_R, x35 _ _ _ ga, x35 _ _ _ gb, Option.bind_some]
      by_cases ma : mayC (smsOf a) = true
      case neg =>
        rw [Bool.not_eq_true] at ma
        have h0 := check_nz ma
        simp only [r35, toI_int, toCells_int, nth_1, nth_zero, h0, decide_false, Bool.not_false, cond_true, f6_J4, x17, Option.bind_some, toB_bool, toCells_bool]
      by_cases mb : mayC (smsOf b) = true
      case neg =>
        rw [Bool.not_eq_true] at mb
        have h0 := check_nz mb
        simp only [r35, toI_int, toCells_int, nth_1, nth_zero, check_zero ma, h0, decide_false, decide_true, Bool.not_false, Bool.not_true, cond_true, cond_false, f6_J4, x17, Option.bind_some, toB_bool, toCells_bool]
      have hlp := f6_loop (nt := nt) (n := N) (x0 := f6_14_P0 nt X N) (by have := ga; simp only [gC, Bool.and_eq_true, nblt] at this; exact this.1) (by have := ga; simp only [gC, Bool.and_eq_true] at this; exact this.2) ma x35 N 0 (by omega) (by omega)
      rw [check_zero ma, check_zero mb]
      have sa : sizeC (smsOf a) = ((allS (smsOf a)).length : Int) := by rw [sizeC, ma, cond_true]
      have sb : sizeC (smsOf b) = ((allS (smsOf b)).length : Int) := by rw [sizeC, mb, cond_true]
      have la5 := ((mayC_iff _).1 ma).2
      have lb5 := ((mayC_iff _).1 mb).2
      have hw : IntKind.wrap .i64 (sizeC (smsOf a) + sizeC (smsOf b)) = ((allS (smsOf a)).length : Int) + (allS (smsOf b)).length := by
        rw [sa, sb, wrap_i64 (by omega) (by omega)]
      have hJ : f6_J4 nt X N (fun r10 r11 r14 i30 => f6_14_L nt X N (f6_14_P0 nt X N) a r10 N i30) aT aC a bT bC b (r35 (usesC (smsOf a)) 0) (r35 (usesC (smsOf b)) 0) false = some ([.bool true], []) := by
        simp only [f6_J4, cond_false, n1, n2, cond_true, x35 _ _ _ gc, x32 _ _ _ ga, x32 _ _ _ gb, x32 _ _ _ gc, x28 _ _ _ gc, Option.bind_some]
        by_cases mc : mayC (smsOf (a ++ b)) = true
        · have hu := uses_append ma mb (by rw [← smsOf_append]; exact mc)
          rw [← smsOf_append] at hu
          have hl := joins_len (by rw [← smsOf_append]; exact mc)
          have sc : sizeC (smsOf (a ++ b)) = ((allS (smsOf a)).length : Int) + (allS (smsOf b)).length := by
            rw [sizeC, mc, cond_true, smsOf_append, allS_append, List.length_append]; omega
          have hlt : ¬ (512 < ((allS (smsOf a)).length : Int) + (allS (smsOf b)).length) := by omega
          rw [check_zero mc]
          simp only [r35, toI_int, toB_bool, toCells_int, toCells_agg, toCells_bool, nth_1, nth_2, nth_zero, hw, sc, decide_true, Bool.not_true, cond_false, hlt, decide_false, hu.1, hu.2.1, hu.2.2]
          have hp : f6_14_P0 nt X N = some ([.bool true], []) := by simp only [f6_14_P0, x17, Option.bind_some, toB_bool, toCells_bool, nth_zero]
          have hlp' := hlp
          rw [hp] at hlp'
          simp only [r35, Int.natCast_zero, Int.ofNat_zero, Int.ofNat_eq_natCast] at hlp'
          revert hlp'
          cases (usesC (smsOf a)).2.1 <;> cases (usesC (smsOf b)).2.1 <;> cases (usesC (smsOf a)).2.2 <;> cases (usesC (smsOf b)).2.2 <;> intro hlp' <;> simp [f6_J12, hlp', hp, toB_bool, toCells_bool, nth_zero]
        · rw [Bool.not_eq_true] at mc
          have hj := check_join ma mb (by rw [← smsOf_append]; exact mc)
          rw [← smsOf_append] at hj
          simp only [r35, hj.1, toI_int, toB_bool, toCells_int, toCells_agg, toCells_bool, nth_1, nth_2, nth_zero, hw, hj.2, decide_true, Bool.not_false, cond_true, x17, Option.bind_some]
          simp
      exact hJ
  · cases hv
end Go.Ev.T
