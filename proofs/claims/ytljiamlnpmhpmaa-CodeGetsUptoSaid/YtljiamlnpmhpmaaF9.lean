/- Function 9 (CodeGets): what it comes to. -/
import Derived.Test.YtljiamlnpmhpmaaD9
import Derived.Test.YtljiamlnpmhpmaaF48
import Derived.Test.YtljiamlnpmhpmaaF17
import Derived.Test.YtljiamlnpmhpmaaF47
set_option linter.unusedVariables false
set_option linter.unusedSimpArgs false
noncomputable section
namespace Go.Ev.T
open Go Go.Ev Go.Proofs
theorem sz_str (r : Row) (j : Nat) : (nth .u r j).toS.length ≤ szL r := by
  have hS : ∀ v : AV, v.toS.length ≤ sz v := fun v => by cases v <;> simp [AV.toS, sz]
  induction r generalizing j with
  | nil => simp [nth, AV.toS]
  | cons c cs ih =>
    cases j with
    | zero => simp only [nth, szL]; have := hS c; omega
    | succ j => simp only [nth, szL]; have := ih j; omega
theorem sz_ownN (nt : Nat) (r : Row) : szL (ownN nt r) ≤ 7 * szL r + 13 := by
  have h1 := sz_ownAt nt r 1
  have h2 := sz_str r 0
  simp only [ownN, szL, sz]; omega
theorem szR_ownN (nt : Nat) : ∀ l : List Row, szR (l.map (ownN nt)) ≤ 14 * szR l
  | [] => by simp [szR]
  | r :: l => by
    have h1 := sz_ownN nt r
    have h2 := szR_ownN nt l
    simp only [List.map_cons, szR]; omega
theorem szR_set (nt : Nat) (s : List UInt8) (w : Row) : ∀ l : List Row, szR (rsSet nt s w l) ≤ 14 * szR l + (s.length + szL w + 2)
  | [] => by simp only [rsSet, szR, szL, sz]; omega
  | r :: l => by
    have h1 := sz_ownN nt r
    have h2 := szR_set nt s w l
    have h3 := szR_ownN nt l
    simp only [rsSet]
    cases isNm s r
    · simp only [cond_false, szR]; omega
    · simp only [cond_true, szR, szL, sz]; omega
theorem sz_ownC (nt : Nat) (k n : Int) (t : List UInt8) (vl : List Row) (r : Int) : szL (ownC nt k n t vl r) ≤ t.length + 6 * szR vl + 5 := by
  have := szR_own nt vl
  simp only [ownC, szL, sz]; omega
def sp16 : Sp
  | [.ps _ 73 _ l], [] => some ([.bool (decide ((l.length : Int) ≤ 200))], [])
  | _, _ => none
theorem told16 (nt : Nat) : Facts nt 16 sp16 := fun args h rs h' hv => by
  unfold sp16 at hv
  split at hv
  · refine fact_tab Try.func16 [] 1 ?_
    rw [f16_q, ← hv]; rfl
  · cases hv
/-- the law's loop over the names -/
theorem f9_loopN {X : Call'} {l l' : List Row} {s : List UInt8} {c : Cp} {L : Nat → Int → Option (List AV × List AObj)} {x0 : Option (List AV × List AObj)}
    (hL : ∀ fu (j : Nat), j < l.length → L (fu + 1) j = L fu ((j + 1 : Nat) : Int)) (hE : ∀ fu, L (fu + 1) (l.length : Int) = x0) : ∀ (fu j : Nat), j ≤ l.length → l.length - j < fu → L fu j = x0
  | 0, j, h1, h2 => by omega
  | fu + 1, j, h1, h2 => by
    by_cases hk : j < l.length
    · rw [hL fu j hk]; exact f9_loopN (l' := l') (s := s) (c := c) (X := X) hL hE fu (j + 1) (by omega) (by omega)
    · obtain rfl : j = l.length := by omega
      exact hE fu
def g9 (l : List Row) (c : Cp) (s o : List UInt8) (t : List UInt8) (vl : List Row) : Bool := Nat.blt (szR l + szR vl + s.length + o.length + t.length) 2097153 && (!c.nl || empty l)
def sp9 : Sp
  | [.ps _ 73 c l, .agg [.str s, .str o], .agg [.int .u8 k, .int .i64 n, .str t, .ps _ 34 _ vl, .int .i64 r]], [] => bif g9 l c s o t vl then some ([.bool true], []) else none
  | _, _ => none
theorem told9 : Facts 1 9 sp9 := fun args h rs h' hv => by
  unfold sp9 at hv
  split at hv
  · rename_i aT C l s o k n t vt vc vl r
    cases hb : g9 l C s o t vl
    · rw [hb] at hv; cases hv
    · rw [hb] at hv
      refine fact_tab Try.func9 [⟨16, sp16, told16 1⟩, ⟨17, sp17, told17 1⟩, ⟨45, sp45 1, told45 1⟩, ⟨36, sp36 1, told36 1⟩, ⟨40, sp40, told40 1⟩, ⟨47, sp47, told47 1⟩, ⟨19, sp19 1, told19 1⟩, ⟨48, sp48 huge, told48 1 huge (Nat.le_refl _)⟩] (l.length + 1) ?_
      rw [f9_q, ← hv]
      generalize hX : tab [⟨16, sp16, told16 1⟩, ⟨17, sp17, told17 1⟩, ⟨45, sp45 1, told45 1⟩, ⟨36, sp36 1, told36 1⟩, ⟨40, sp40, told40 1⟩, ⟨47, sp47, told47 1⟩, ⟨19, sp19 1, told19 1⟩, ⟨48, sp48 huge, told48 1 huge (Nat.le_refl _)⟩] = X
      have x16 : X 16 [.ps aT 73 C l] [] = some ([.bool (decide ((l.length : Int) ≤ 200))], []) := by rw [← hX, tab_hit]; rfl
      have x17 : X 17 [] [] = some ([.bool true], []) := by rw [← hX, tab_miss rfl, tab_hit]; rfl
      have x45 : ∀ args, X 45 args [] = sp45 1 args [] := fun args => by rw [← hX, tab_miss rfl, tab_miss rfl, tab_hit]
      have x36 : ∀ args, X 36 args [] = sp36 1 args [] := fun args => by rw [← hX, tab_miss rfl, tab_miss rfl, tab_miss rfl, tab_hit]
      have x40 : ∀ args, X 40 args [] = sp40 args [] := fun args => by rw [← hX, tab_miss rfl, tab_miss rfl, tab_miss rfl, tab_miss rfl, tab_hit]
      have x47 : X 47 [.str s] [] = some ([.agg [.int .u8 4, .int .i64 0, .str s, .ps 0 26 ⟨true, true⟩ []]], []) := by rw [← hX, tab_miss rfl, tab_miss rfl, tab_miss rfl, tab_miss rfl, tab_miss rfl, tab_hit]; rfl
      have x19 : ∀ args, X 19 args [] = sp19 1 args [] := fun args => by rw [← hX, tab_miss rfl, tab_miss rfl, tab_miss rfl, tab_miss rfl, tab_miss rfl, tab_miss rfl, tab_hit]
      have x48 : ∀ args, X 48 args [] = sp48 huge args [] := fun args => by rw [← hX, tab_miss rfl, tab_miss rfl, tab_miss rfl, tab_miss rfl, tab_miss rfl, tab_miss rfl, tab_miss rfl, tab_hit]
      clear hX
      simp only [g9, Bool.and_eq_true, nblt] at hb
      obtain ⟨hsz, hnl⟩ := hb
      have b1 : Nat.blt (szR l) big2 = true := by rw [nblt]; unfold big2; omega
      have b2 : Nat.blt (szR vl) big2 = true := by rw [nblt]; unfold big2; omega
      have hl := szR_len l
      have e45 : X 45 [.ps aT 73 C l, .str s, .agg [.int .u8 k, .int .i64 n, .str t, .ps vt 34 vc vl, .int .i64 r]] [] = some (set45 1 C l s (.mk k n t (vlsOf vl) r) (ownC 1 k n t vl r)) := by
        rw [x45]; simp only [sp45, b1, b2, hnl, Bool.and_self, cond_true]
      unfold f9 f9_R
      rw [x16]
      simp only [Option.bind_some, toB_bool, toCells_bool, nth_zero, cond_true]
      by_cases h200 : (l.length : Int) ≤ 200
      case neg => simp only [h200, decide_false, Bool.not_false, cond_true, x17, Option.bind_some, toB_bool, toCells_bool, nth_zero]
      simp only [h200, decide_true, Bool.not_true, cond_false, e45, Option.bind_some]
      cases hm : (mayNames (nmsOf l) && mayName s && mayV (.mk k n t (vlsOf vl) r))
      · have hq : set45 1 C l s (.mk k n t (vlsOf vl) r) (ownC 1 k n t vl r) = ([.ps 0 0 ⟨true, true⟩ [], .int .i64 2], []) := by unfold set45; rw [hm]; rfl
        simp only [hq, nth_1, nth_zero, toCells_int, toI_int, x17, Option.bind_some, toB_bool, toCells_bool]
        simp
      simp only [Bool.and_eq_true] at hm
      obtain ⟨⟨hN, hs⟩, hV⟩ := hm
      have hall : (nmsOf l).all mayNm = true := by
        have := hN; simp only [mayNames, Bool.and_eq_true] at this; exact this.1.2
      have hlen64 : (nmsOf l).length ≤ 64 := by
        have := hN; simp only [mayNames, Bool.and_eq_true, decide_eq_true_eq] at this; omega
      have hnl2 : (nmsOf l).length = l.length := by simp [nmsOf]
      have hany : l.any (isNm s) = hasN (nmsOf l) s := by simp only [hasN, nmsOf, List.any_map]; rfl
      cases hfull : (!hasN (nmsOf l) s && decide ((64 : Int) ≤ (l.length : Int)))
      case true =>
        have hq : set45 1 C l s (.mk k n t (vlsOf vl) r) (ownC 1 k n t vl r) = ([.ps 0 0 ⟨true, true⟩ [], .int .i64 8], []) := by
          simp only [Bool.and_eq_true, Bool.not_eq_true'] at hfull
          unfold set45
          rw [hN, hs, hV, hany, hfull.1, hfull.2]; rfl
        simp only [hq, nth_1, nth_zero, toCells_int, toI_int, x17, Option.bind_some, toB_bool, toCells_bool]
        simp
      have hroom : hasN (nmsOf l) s = true ∨ (nmsOf l).length < 64 := by
        cases hh : hasN (nmsOf l) s
        · rw [hh] at hfull
          simp only [Bool.not_false, Bool.true_and, decide_eq_false_iff_not] at hfull
          right; omega
        · exact .inl rfl
      obtain ⟨cc, hq⟩ : ∃ cc, set45 1 C l s (.mk k n t (vlsOf vl) r) (ownC 1 k n t vl r) = ([.ps 1 73 cc (rsSet 1 s (ownC 1 k n t vl r) l), .int .i64 0], []) := by
        unfold set45
        rw [hN, hs, hV, hany, setRows_eq]
        cases hh : hasN (nmsOf l) s
        · rw [hh] at hfull
          simp only [Bool.not_false, Bool.true_and] at hfull
          rw [hfull]; exact ⟨_, rfl⟩
        · exact ⟨_, rfl⟩
      -- the rows behind
      generalize hl' : rsSet 1 s (ownC 1 k n t vl r) l = l' at hq
      have hN' : nmsOf l' = setN s (.mk k n t (vlsOf vl) r) (nmsOf l) := by rw [← hl']; exact nms_set 1 s k n t vl r l hall
      have hmay' : mayNames (nmsOf l') = true := by rw [hN']; exact mayNames_set hN hs hV hroom
      have hall' : (nmsOf l').all mayNm = true := by
        have := hmay'; simp only [mayNames, Bool.and_eq_true] at this; exact this.1.2
      have hnl3 : (nmsOf l').length = l'.length := by simp [nmsOf]
      have hlens := setN_len s (.mk k n t (vlsOf vl) r) (nmsOf l)
      rw [← hN', hnl3, hnl2] at hlens
      have hszl' : szR l' ≤ 14 * szR l + (s.length + szL (ownC 1 k n t vl r) + 2) := by rw [← hl']; exact szR_set 1 s _ l
      have hszC := sz_ownC 1 k n t vl r
      have c1 : Nat.blt (szR l') big2 = true := by rw [nblt]; unfold big2; omega
      have c2 : Nat.blt (szR l') big = true := by rw [nblt]; unfold big; omega
      have c3 : Nat.blt (szR l') lim = true := by rw [nblt]; unfold lim; omega
      have g1 := getR_vl 1 s l' hall'
      have g2 := getR_vl 1 o l hall
      have g3 := getR_vl 1 o l' hall'
      rw [hN', setN_get, setN_has] at g1
      have e36 : ∀ (T : Nat) (c : Cp) (q : List Row) (w : List UInt8), Nat.blt (szR q) big2 = true → X 36 [.ps T 73 c q, .str w] [] = some ([.agg (getR 1 q w), .bool ((q.find? (fun r => decide ((nth .u r 0).toS = w))).isSome)], []) := fun T c q w hg => by
        rw [x36]; simp only [sp36, hg, cond_true]
        unfold getR
        cases q.find? (fun r => decide ((nth .u r 0).toS = w)) <;> rfl
      have e40 : X 40 [.ps 1 73 cc l'] [] = some ([.bool true], []) := by rw [x40]; simp only [sp40, c2, cond_true, hmay']
      have five : ∀ q w, [.int .u8 (nth .u (getR 1 q w) 0).toI, .int .i64 (nth .u (getR 1 q w) 1).toI, .str (nth .u (getR 1 q w) 2).toS, .ps (nth .u (getR 1 q w) 3).toTg 34 (nth .u (getR 1 q w) 3).toCp (nth .u (getR 1 q w) 3).toR, .int .i64 (nth .u (getR 1 q w) 4).toI] = getR 1 q w := fun q w => five_getR 1 q w
      -- Work of the name
      have hor : orNoEx (.mk 4 0 s (exsOf [])) = true := by
        have : mayE (.mk 4 0 s (exsOf [])) 16 512 = (mayName s, w64 (512 - 1)) := rfl
        simp only [orNoEx, mayEx, this, hs, Bool.or_true]
      have hslim : Nat.blt (s.length + szR []) lim = true := by rw [nblt]; simp only [szR]; unfold lim; omega
      have hwork : ∀ (T : Nat) (c : Cp) (q : List Row), Nat.blt (szR q) lim = true → mayNames (nmsOf q) = true → mayV (vlOf (getR 1 q s)) = true → X 19 [.ps T 73 c q, .agg [.int .u8 4, .int .i64 0, .str s, .ps 0 26 ⟨true, true⟩ []]] [] = some ([.agg (getR 1 q s), .int .i64 0], []) := fun T c q h1 h2 h3 => by
        rw [x19]
        simp only [sp19, h1, hslim, Bool.and_self, cond_true, workA, h2, hor]
        have hw1 : (workR 1 q (.mk 4 0 s (exsOf [])) 512).1 = getR 1 q s := rfl
        have hw2 : (workR 1 q (.mk 4 0 s (exsOf [])) 512).2 = w64 (512 - measure (vlOf (getR 1 q s))) := rfl
        have hme := measure_le (vlOf (getR 1 q s))
        have hw3 : w64 (512 - measure (vlOf (getR 1 q s))) = 512 - measure (vlOf (getR 1 q s)) := wrap_i64 (by omega) (by omega)
        have hw4 : ¬ (512 - measure (vlOf (getR 1 q s)) < 0) := by omega
        rw [hw1, hw2, hw3, h3]
        simp only [hw4, decide_false, Bool.not_true, Bool.or_self, cond_false]
      have w1 := hwork 1 cc l' c3 hmay' (by rw [g1.1]; exact hV)
      -- one name alone
      have hone : nmsOf [[.str s, .int .u8 k, .int .i64 n, .str t, .ps vt 34 vc vl, .int .i64 r]] = [(s, (.mk k n t (vlsOf vl) r))] := rfl
      have hmone : mayNames [(s, (.mk k n t (vlsOf vl) r))] = true := by
        have h1 : twice [s] = false := (twice_iff [s]).2 (by simp)
        simp only [mayNames, List.length_cons, List.length_nil, List.all_cons, List.all_nil, mayNm, hs, hV, List.map_cons, List.map_nil, h1]
        rfl
      have hallone : (nmsOf [[.str s, .int .u8 k, .int .i64 n, .str t, .ps vt 34 vc vl, .int .i64 r]]).all mayNm = true := by rw [hone]; simp only [List.all_cons, List.all_nil, mayNm, hs, hV, Bool.and_self]
      have gone := getR_vl 1 s _ hallone
      rw [hone] at gone
      have hgv : gv [(s, (.mk k n t (vlsOf vl) r))] s = (.mk k n t (vlsOf vl) r) := by simp [gv]
      rw [hgv] at gone
      have szone : Nat.blt (szR [[AV.str s, .int .u8 k, .int .i64 n, .str t, .ps vt 34 vc vl, .int .i64 r]]) lim = true := by
        rw [nblt]; simp only [szR, szL, sz]; unfold lim; omega
      have w2 := hwork 1 ⟨false, false⟩ [[.str s, .int .u8 k, .int .i64 n, .str t, .ps vt 34 vc vl, .int .i64 r]] szone (by rw [hone]; exact hmone) (by rw [gone.1]; exact hV)
      generalize hgo : getR 1 [[AV.str s, .int .u8 k, .int .i64 n, .str t, .ps vt 34 vc vl, .int .i64 r]] s = G2 at w2 gone
      have fG2 : [.int .u8 (nth .u (G2) 0).toI, .int .i64 (nth .u (G2) 1).toI, .str (nth .u (G2) 2).toS, .ps (nth .u (G2) 3).toTg 34 (nth .u (G2) 3).toCp (nth .u (G2) 3).toR, .int .i64 (nth .u (G2) 4).toI] = G2 := by rw [← hgo]; exact five _ _
      have szg : ∀ q w, Nat.blt (szR q) lim = true → Nat.blt (szR (nth .u (getR 1 q w) 3).toR) huge = true := fun q w h => by
        have h1 := sz_getR 1 q w
        have h2 := sz_nth (getR 1 q w) 3
        rw [nblt] at h ⊢
        unfold lim at h; unfold huge; omega
      have clim : Nat.blt (szR l) lim = true := by rw [nblt]; unfold lim; omega
      have same : ∀ (A B : Row) (v : Vl), Nat.blt (szR (nth .u A 3).toR) huge = true → vlOf A = v → vlOf B = v → X 48 [.agg [.int .u8 (nth .u (A) 0).toI, .int .i64 (nth .u (A) 1).toI, .str (nth .u (A) 2).toS, .ps (nth .u (A) 3).toTg 34 (nth .u (A) 3).toCp (nth .u (A) 3).toR, .int .i64 (nth .u (A) 4).toI], .agg [.int .u8 (nth .u (B) 0).toI, .int .i64 (nth .u (B) 1).toI, .str (nth .u (B) 2).toS, .ps (nth .u (B) 3).toTg 34 (nth .u (B) 3).toCp (nth .u (B) 3).toR, .int .i64 (nth .u (B) 4).toI]] [] = some ([.bool true], []) := fun A B v h1 h2 h3 => by
        rw [x48]
        simp only [sp48, h1, cond_true]
        rw [← vlOf_eq, ← vlOf_eq, h2, h3, (sameVl_iff v v).2 rfl]
      have s1 := same (getR 1 l' s) G2 _ (szg l' s c3) g1.1 gone.1
      have s2 := same (getR 1 l' s) (getR 1 l' s) _ (szg l' s c3) g1.1 g1.1
      have s3 : X 48 [.agg [.int .u8 (nth .u (getR 1 l' s) 0).toI, .int .i64 (nth .u (getR 1 l' s) 1).toI, .str (nth .u (getR 1 l' s) 2).toS, .ps (nth .u (getR 1 l' s) 3).toTg 34 (nth .u (getR 1 l' s) 3).toCp (nth .u (getR 1 l' s) 3).toR, .int .i64 (nth .u (getR 1 l' s) 4).toI], .agg [.int .u8 k, .int .i64 n, .str t, .ps vt 34 vc vl, .int .i64 r]] [] = some ([.bool true], []) := by
        rw [x48]
        simp only [sp48, szg l' s c3, cond_true]
        rw [← vlOf_eq, g1.1, (sameVl_iff _ _).2 rfl]
      have s4 : ¬ o = s → X 48 [.agg [.int .u8 (nth .u (getR 1 l o) 0).toI, .int .i64 (nth .u (getR 1 l o) 1).toI, .str (nth .u (getR 1 l o) 2).toS, .ps (nth .u (getR 1 l o) 3).toTg 34 (nth .u (getR 1 l o) 3).toCp (nth .u (getR 1 l o) 3).toR, .int .i64 (nth .u (getR 1 l o) 4).toI], .agg [.int .u8 (nth .u (getR 1 l' o) 0).toI, .int .i64 (nth .u (getR 1 l' o) 1).toI, .str (nth .u (getR 1 l' o) 2).toS, .ps (nth .u (getR 1 l' o) 3).toTg 34 (nth .u (getR 1 l' o) 3).toCp (nth .u (getR 1 l' o) 3).toR, .int .i64 (nth .u (getR 1 l' o) 4).toI]] [] = some ([.bool true], []) := fun ho =>
        same _ _ _ (szg l o clim) g2.1 (by rw [g3.1, hN', (setN_other s (.mk k n t (vlsOf vl) r) ho (nmsOf l)).2])
      have hhas : ¬ o = s → hasN (nmsOf l') o = hasN (nmsOf l) o := fun ho => by rw [hN', (setN_other s (.mk k n t (vlsOf vl) r) ho (nmsOf l)).1]
      have hle1 : ¬ ((l'.length : Int) < (l.length : Int)) := by omega
      have hw5 : IntKind.wrap .i64 ((l.length : Int) + 1) = (l.length : Int) + 1 := wrap_i64 (by omega) (by omega)
      have hle2 : ¬ ((l.length : Int) + 1 < (l'.length : Int)) := by omega
      -- the loop
      have round : ∀ (j : Nat), j < l.length → (nth .u (nth [] l' j) 0).toS = (nth .u (nth [] l j) 0).toS ∧ (¬ (nth .u (nth [] l j) 0).toS = s → X 48 [.agg [.int .u8 (nth .u (nth [] l' j) 1).toI, .int .i64 (nth .u (nth [] l' j) 2).toI, .str (nth .u (nth [] l' j) 3).toS, .ps (nth .u (nth [] l' j) 4).toTg 34 (nth .u (nth [] l' j) 4).toCp (nth .u (nth [] l' j) 4).toR, .int .i64 (nth .u (nth [] l' j) 5).toI], .agg [.int .u8 (nth .u (nth [] l j) 1).toI, .int .i64 (nth .u (nth [] l j) 2).toI, .str (nth .u (nth [] l j) 3).toS, .ps (nth .u (nth [] l j) 4).toTg 34 (nth .u (nth [] l j) 4).toCp (nth .u (nth [] l j) 4).toR, .int .i64 (nth .u (nth [] l j) 5).toI]] [] = some ([.bool true], [])) := fun j hj => by
        have hj' : j < l'.length := by omega
        have hp : (nmsOf l)[j]? = some (nmOf (nth [] l j)) := by rw [nth_get (s := l) hj]; simp [nmsOf, hj]
        obtain ⟨q, h1, h2, h3⟩ := setN_at s (.mk k n t (vlsOf vl) r) (nmsOf l) j _ hp
        rw [← hN'] at h1
        have hq' : (nmsOf l')[j]? = some (nmOf (nth [] l' j)) := by rw [nth_get (s := l') hj']; simp [nmsOf, hj']
        rw [hq'] at h1
        obtain rfl := Option.some.inj h1
        refine ⟨h2, fun hne => ?_⟩
        have h4 : vlAt (nth [] l' j) 1 = vlAt (nth [] l j) 1 := h3 hne
        have hgs : Nat.blt (szR (nth .u (nth [] l' j) 4).toR) huge = true := by
          have a1 := sz_nth (nth [] l' j) 4
          have a2 := sz_mem (nth_mem (d := []) hj')
          rw [nblt] at c3 ⊢
          unfold lim at c3; unfold huge; omega
        rw [x48]
        simp only [sp48, hgs, cond_true]
        have h5 : sameVl (vlAt (nth [] l' j) 1) (vlAt (nth [] l j) 1) = true := (sameVl_iff _ _).2 h4
        unfold vlAt at h5
        rw [h5]
      have loopA : f9_17_L 1 X (l.length + 1) (f9_17_P0 1 X (l.length + 1)) (f9_17_P1 1 X (l.length + 1)) l s ([.ps 1 73 cc l', .int .i64 0], []) (l.length + 1) 0 = some ([.bool true], []) := by
        have h := f9_loopN (X := X) (l := l) (l' := l') (s := s) (c := cc) (L := fun fu j => f9_17_L 1 X (l.length + 1) (f9_17_P0 1 X (l.length + 1)) (f9_17_P1 1 X (l.length + 1)) l s ([.ps 1 73 cc l', .int .i64 0], []) fu j) (x0 := some ([.bool true], [])) (fun fu j hj => by
          obtain ⟨r1, r2⟩ := round j hj
          have d1 : decide ((j : Int) < (l.length : Int)) = true := by simp only [decide_eq_true_eq]; omega
          have d2 : decide ((0 : Int) ≤ (j : Int)) = true := by simp only [decide_eq_true_eq]; omega
          have d3 : (j : Int) < (l'.length : Int) := by omega
          have hw := wrap_i64_nat (k := j) (by omega)
          by_cases hs' : (nth .u (nth [] l j) 0).toS = s
          · simp only [f9_17_L, f9_17, f9_J20, nth_zero, toCells_ps, toR_ps, Int.toNat_natCast, d1, d2, d3, decide_true, Bool.true_and, Bool.and_self, cond_true, cond_false, r1, hs', decide_true, Bool.not_true, hw]
          · simp only [f9_17_L, f9_17, f9_J20, nth_zero, toCells_ps, toR_ps, Int.toNat_natCast, d1, d2, d3, decide_true, Bool.true_and, Bool.and_self, cond_true, cond_false, r1, hs', decide_true, decide_false, Bool.not_true, Bool.not_false, hw, r2 hs', Option.bind_some, toB_bool, toCells_bool]) (fun fu => by
          have d1 : decide (((l.length : Nat) : Int) < (l.length : Int)) = false := by simp
          simp only [f9_17_L, f9_17, d1, cond_false, f9_17_P0, x17, Option.bind_some, toB_bool, toCells_bool, nth_zero]) (l.length + 1) 0 (by omega) (by omega)
        simpa only [Int.natCast_zero, Int.ofNat_zero] using h
      have loopB : f9_17_2_L 1 X (l.length + 1) (f9_17_2_P0 1 X (l.length + 1)) (f9_17_2_P1 1 X (l.length + 1)) l s ([.ps 1 73 cc l', .int .i64 0], []) (l.length + 1) 0 = some ([.bool true], []) := by
        have h := f9_loopN (X := X) (l := l) (l' := l') (s := s) (c := cc) (L := fun fu j => f9_17_2_L 1 X (l.length + 1) (f9_17_2_P0 1 X (l.length + 1)) (f9_17_2_P1 1 X (l.length + 1)) l s ([.ps 1 73 cc l', .int .i64 0], []) fu j) (x0 := some ([.bool true], [])) (fun fu j hj => by
          obtain ⟨r1, r2⟩ := round j hj
          have d1 : decide ((j : Int) < (l.length : Int)) = true := by simp only [decide_eq_true_eq]; omega
          have d2 : decide ((0 : Int) ≤ (j : Int)) = true := by simp only [decide_eq_true_eq]; omega
          have d3 : (j : Int) < (l'.length : Int) := by omega
          have hw := wrap_i64_nat (k := j) (by omega)
          by_cases hs' : (nth .u (nth [] l j) 0).toS = s
          · simp only [f9_17_2_L, f9_17_2, f9_J20_2, nth_zero, toCells_ps, toR_ps, Int.toNat_natCast, d1, d2, d3, decide_true, Bool.true_and, Bool.and_self, cond_true, cond_false, r1, hs', decide_true, Bool.not_true, hw]
          · simp only [f9_17_2_L, f9_17_2, f9_J20_2, nth_zero, toCells_ps, toR_ps, Int.toNat_natCast, d1, d2, d3, decide_true, Bool.true_and, Bool.and_self, cond_true, cond_false, r1, hs', decide_true, decide_false, Bool.not_true, Bool.not_false, hw, r2 hs', Option.bind_some, toB_bool, toCells_bool]) (fun fu => by
          have d1 : decide (((l.length : Nat) : Int) < (l.length : Int)) = false := by simp
          simp only [f9_17_2_L, f9_17_2, d1, cond_false, f9_17_2_P0, x17, Option.bind_some, toB_bool, toCells_bool, nth_zero]) (l.length + 1) 0 (by omega) (by omega)
        simpa only [Int.natCast_zero, Int.ofNat_zero] using h
      simp only [hq, nth_zero, nth_1, toCells_int, toCells_ps, toTg_ps, toCp_ps, toR_ps, toI_int, decide_true, Bool.not_true, cond_false, e36 _ _ _ _ c1, e36 _ _ _ _ b1, g1.2, g2.2, g3.2, Option.bind_some, toB_bool, toCells_bool, e40, hle1, decide_false, hw5, hle2]
      have J : f9_C0 1 X (l.length + 1) l s o k n t vt vc vl r ([.ps 1 73 cc l', .int .i64 0], []) ([.agg (getR 1 l' s), .bool true], []) ([.agg (getR 1 l o), .bool (hasN (nmsOf l) o)], []) ([.agg (getR 1 l' o), .bool (hasN (nmsOf l') o)], []) false = some ([.bool true], []) := by
        by_cases ho : o = s
        · simp only [f9_C0, f9_C0_R, f9_J15, f9_J15_2, cond_false, x47, w1, w2, Option.bind_some, nth_zero, nth_1, nth_2, nth_3, nth_4, toCells_agg, toCells_int, toCells_bool, toCells_ps, toI_int, toS_str, toTg_ps, toCp_ps, toR_ps, toB_bool, decide_true, Bool.not_true, s1, s2, s3, ho, loopA, loopB, both_self]
        · simp only [f9_C0, f9_C0_R, f9_J15, f9_J15_2, cond_false, cond_true, x47, w1, w2, Option.bind_some, nth_zero, nth_1, nth_2, nth_3, nth_4, toCells_agg, toCells_int, toCells_bool, toCells_ps, toI_int, toS_str, toTg_ps, toCp_ps, toR_ps, toB_bool, decide_true, decide_false, Bool.not_true, Bool.not_false, s1, s2, s3, s4 ho, ho, loopA, loopB, both_self]
      by_cases ho : o = s
      · simp only [ho, decide_true, Bool.not_true, cond_false, f9_J11]
        subst ho
        exact J
      · simp only [f9_J11, ho, decide_false, Bool.not_false, cond_true, hhas ho, beq_self_eq_true, Bool.not_true, cond_false]
        have J' := J
        rw [hhas ho] at J'
        exact J'
  · cases hv
end Go.Ev.T
