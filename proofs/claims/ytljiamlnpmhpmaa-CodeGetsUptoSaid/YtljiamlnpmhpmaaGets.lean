/- Names set and got. Plain Lean, no program in sight but rows. -/
import Derived.Test.YtljiamlnpmhpmaaF45
import Derived.Test.YtljiamlnpmhpmaaF63
set_option linter.unusedVariables false
set_option linter.unusedSimpArgs false
noncomputable section
namespace Go.Ev
open Go
abbrev Nm := List UInt8 × Vl
/-- a name set among names -/
def setN (s : List UInt8) (v : Vl) : List Nm → List Nm
  | [] => [(s, v)]
  | p :: ps => bif decide (p.1 = s) then (s, v) :: ps else p :: setN s v ps
def hasN (ns : List Nm) (s : List UInt8) : Bool := ns.any fun p => decide (p.1 = s)
def gv (ns : List Nm) (s : List UInt8) : Vl := match ns.find? fun p => decide (p.1 = s) with | some p => p.2 | none => vl0
theorem setN_has (s : List UInt8) (v : Vl) : ∀ ns, hasN (setN s v ns) s = true
  | [] => by simp [setN, hasN]
  | p :: ps => by
    simp only [setN]
    by_cases h : p.1 = s
    · simp [h, hasN]
    · have := setN_has s v ps
      simp only [h, decide_false, cond_false, hasN, List.any_cons, Bool.false_or] at this ⊢
      exact this
theorem setN_get (s : List UInt8) (v : Vl) : ∀ ns, gv (setN s v ns) s = v
  | [] => by simp [setN, gv]
  | p :: ps => by
    simp only [setN]
    by_cases h : p.1 = s
    · simp [h, gv]
    · have := setN_get s v ps
      simp only [h, decide_false, cond_false, gv, List.find?_cons] at this ⊢
      exact this
theorem setN_other (s : List UInt8) (v : Vl) {o : List UInt8} (ho : ¬ o = s) : ∀ ns, hasN (setN s v ns) o = hasN ns o ∧ gv (setN s v ns) o = gv ns o
  | [] => by
    have : ¬ s = o := fun h => ho h.symm
    simp [setN, hasN, gv, this]
  | p :: ps => by
    have ih := setN_other s v ho ps
    have hs : ¬ s = o := fun h => ho h.symm
    simp only [setN]
    by_cases h : p.1 = s
    · have hp : ¬ p.1 = o := fun hq => ho (hq.symm.trans h)
      simp only [h, decide_true, cond_true, hasN, gv, List.any_cons, List.find?_cons, hs, decide_false, Bool.false_or]
      exact ⟨trivial, trivial⟩
    · simp only [h, decide_false, cond_false, hasN, gv, List.any_cons, List.find?_cons] at ih ⊢
      by_cases hp : p.1 = o
      · simp [hp]
      · simp only [hp, decide_false, Bool.false_or]; exact ih
theorem setN_len (s : List UInt8) (v : Vl) : ∀ ns, ns.length ≤ (setN s v ns).length ∧ (setN s v ns).length ≤ ns.length + 1 ∧ (hasN ns s = true → (setN s v ns).length = ns.length) ∧ (hasN ns s = false → (setN s v ns).length = ns.length + 1)
  | [] => by simp [setN, hasN]
  | p :: ps => by
    obtain ⟨h1, h2, h3, h4⟩ := setN_len s v ps
    simp only [setN]
    by_cases h : p.1 = s
    · simp [h, hasN]
    · simp only [h, decide_false, cond_false, List.length_cons, hasN, List.any_cons, Bool.false_or]
      refine ⟨by omega, by omega, fun hq => by rw [h3 hq], fun hq => by rw [h4 hq]⟩
/-- at its place, each other name stays with its value -/
theorem setN_at (s : List UInt8) (v : Vl) : ∀ (ns : List Nm) (i : Nat) (p : Nm), ns[i]? = some p → ∃ q, (setN s v ns)[i]? = some q ∧ q.1 = p.1 ∧ (¬ p.1 = s → q.2 = p.2)
  | [], i, p, h => by simp at h
  | x :: ps, i, p, h => by
    simp only [setN]
    by_cases hx : x.1 = s
    · simp only [hx, decide_true, cond_true]
      cases i with
      | zero =>
        simp only [List.getElem?_cons_zero, Option.some.injEq] at h
        subst h
        exact ⟨(s, v), rfl, hx.symm, fun hn => absurd hx hn⟩
      | succ i => exact ⟨p, by simpa using h, rfl, fun _ => rfl⟩
    · simp only [hx, decide_false, cond_false]
      cases i with
      | zero =>
        simp only [List.getElem?_cons_zero, Option.some.injEq] at h
        subst h
        exact ⟨x, rfl, rfl, fun _ => rfl⟩
      | succ i =>
        obtain ⟨q, h1, h2⟩ := setN_at s v ps i p (by simpa using h)
        exact ⟨q, by simpa using h1, h2⟩
theorem setN_all (s : List UInt8) (v : Vl) (f : Nm → Bool) (hv : f (s, v) = true) : ∀ ns, ns.all f = true → (setN s v ns).all f = true
  | [], _ => by simp [setN, hv]
  | p :: ps, h => by
    simp only [List.all_cons, Bool.and_eq_true] at h
    simp only [setN]
    cases decide (p.1 = s)
    · simp only [cond_false, List.all_cons, h.1, Bool.true_and]; exact setN_all s v f hv ps h.2
    · simp only [cond_true, List.all_cons, hv, Bool.true_and]; exact h.2
theorem setN_names (s : List UInt8) (v : Vl) : ∀ ns, (setN s v ns).map (·.1) = bif hasN ns s then ns.map (·.1) else ns.map (·.1) ++ [s]
  | [] => rfl
  | p :: ps => by
    have ih := setN_names s v ps
    simp only [setN]
    by_cases h : p.1 = s
    · simp [h, hasN]
    · simp only [h, decide_false, cond_false, List.map_cons, ih, hasN, List.any_cons, Bool.false_or]
      cases (ps.any fun p => decide (p.1 = s)) <;> rfl
/-! twice -/
def cnt (s : List UInt8) (l : List (List UInt8)) : Nat := l.countP fun x => decide (x = s)
theorem keyEq_str (a b : List UInt8) : keyEq (.str a) (.str b) = decide (a = b) := rfl
theorem mpGet_set (a b : List UInt8) (v : AV) : ∀ (m : List (AV × AV)), (∀ p ∈ m, ∃ k, p.1 = .str k) → mpGet (.str a) (mpSet (.str b) v m) = if a = b then some v else mpGet (.str a) m
  | [], _ => by
    simp only [mpSet, mpGet, keyEq_str]
    by_cases h : a = b <;> simp [h]
  | (k, w) :: m, hm => by
    obtain ⟨q, rfl⟩ := hm (k, w) List.mem_cons_self
    have ih := mpGet_set a b v m fun p hp => hm p (List.mem_cons_of_mem _ hp)
    simp only [mpSet, keyEq_str]
    by_cases hb : b = q
    · subst hb
      simp only [decide_true, cond_true, mpGet, keyEq_str]
      by_cases h : a = b <;> simp [h]
    · simp only [hb, decide_false, cond_false, mpGet, keyEq_str, ih]
      by_cases h : a = q
      · subst h
        have : ¬ a = b := fun h => hb h.symm
        simp [this]
      · simp [h]
theorem mpSet_str (b : List UInt8) (v : AV) : ∀ (m : List (AV × AV)), (∀ p ∈ m, ∃ k, p.1 = .str k) → ∀ p ∈ mpSet (.str b) v m, ∃ k, p.1 = .str k
  | [], _, p, hp => by simp only [mpSet, List.mem_singleton] at hp; subst hp; exact ⟨b, rfl⟩
  | (k, w) :: m, hm, p, hp => by
    simp only [mpSet, cond_eq_ite] at hp
    split at hp
    · rcases List.mem_cons.1 hp with rfl | hp
      · exact ⟨b, rfl⟩
      · exact hm p (List.mem_cons_of_mem _ hp)
    · rcases List.mem_cons.1 hp with rfl | hp
      · exact hm _ List.mem_cons_self
      · exact mpSet_str b v m (fun p hp => hm p (List.mem_cons_of_mem _ hp)) p hp
theorem met_meet {s t : List UInt8} {m : List (AV × AV)} (hm : ∀ p ∈ m, ∃ k, p.1 = .str k) : met s (meet t m) = if s = t then IntKind.wrap .i64 (met t m + 1) else met s m := by
  unfold meet met
  rw [mpGet_set _ _ _ _ hm]
  by_cases h : s = t
  · simp [h, orZ, AV.toCells, nth, AV.toI]
  · simp [h]
/-- twice: some text stands twice -/
theorem twGo_iff : ∀ (ss : List (List UInt8)) (m : List (AV × AV)), (∀ p ∈ m, ∃ k, p.1 = .str k) → (∀ s, met s m = 0 ∨ met s m = 1) → (twGo ss m = false ↔ ss.Nodup ∧ ∀ s ∈ ss, met s m = 0)
  | [], m, hm, h01 => by simp [twGo]
  | s :: ss, m, hm, h01 => by
    have hs : met s (meet s m) = IntKind.wrap .i64 (met s m + 1) := by rw [met_meet hm]; simp
    simp only [twGo]
    rcases h01 s with h0 | h1
    · have e1 : met s (meet s m) = 1 := by rw [hs, h0]; decide
      have e2 : ∀ x, met x (meet s m) = 0 ∨ met x (meet s m) = 1 := fun x => by
        rw [met_meet hm]
        by_cases hx : x = s
        · subst hx; right; simp [h0]; decide
        · simp only [hx, if_false]; exact h01 x
      have ih := twGo_iff ss (meet s m) (mpSet_str _ _ m hm) e2
      have hd : ¬ (1 < met s (meet s m)) := by rw [e1]; decide
      simp only [hd, decide_false, cond_false, ih, List.nodup_cons, List.mem_cons, forall_eq_or_imp, h0, true_and]
      constructor
      · rintro ⟨hn, hx⟩
        refine ⟨⟨fun hm' => ?_, hn⟩, fun x hxs => ?_⟩
        · have := hx s hm'; rw [e1] at this; cases this
        · have := hx x hxs
          rw [met_meet hm] at this
          by_cases hxe : x = s
          · subst hxe; simp [h0] at this; exact absurd this (by decide)
          · simpa only [hxe, if_false] using this
      · rintro ⟨⟨hns, hn⟩, hx⟩
        refine ⟨hn, fun x hxs => ?_⟩
        rw [met_meet hm]
        have hxe : ¬ x = s := fun h => hns (h ▸ hxs)
        simp only [hxe, if_false]; exact hx x hxs
    · have e1 : met s (meet s m) = 2 := by rw [hs, h1]; decide
      have hd : (1 < met s (meet s m)) := by rw [e1]; decide
      simp only [hd, decide_true, cond_true, List.mem_cons, forall_eq_or_imp, h1]
      constructor
      · intro h; cases h
      · rintro ⟨_, h, _⟩; cases h
theorem twice_iff (ss : List (List UInt8)) : twice ss = false ↔ ss.Nodup := by
  unfold twice
  rw [twGo_iff ss [] (fun p hp => by simp at hp) (fun s => .inl rfl)]
  exact ⟨fun h => h.1, fun h => ⟨h, fun s _ => rfl⟩⟩
theorem mayNames_set {ns : List Nm} {s : List UInt8} {v : Vl} (hn : mayNames ns = true) (hs : mayName s = true) (hv : mayV v = true) (hl : hasN ns s = true ∨ ns.length < 64) : mayNames (setN s v ns) = true := by
  simp only [mayNames, Bool.and_eq_true, decide_eq_true_eq, Bool.not_eq_true', twice_iff] at hn ⊢
  obtain ⟨⟨h1, h2⟩, h3⟩ := hn
  obtain ⟨a1, a2, a3, a4⟩ := setN_len s v ns
  refine ⟨⟨?_, setN_all s v mayNm (by simp [mayNm, hs, hv]) ns h2⟩, ?_⟩
  · cases hb : hasN ns s
    · rw [hb] at hl; have := a4 hb; have := hl.resolve_left (by simp); omega
    · have := a3 hb; omega
  · rw [setN_names]
    cases hb : hasN ns s
    · simp only [cond_false]
      rw [List.nodup_append]
      refine ⟨h3, by simp, fun x hx y hy => ?_⟩
      simp only [List.mem_singleton] at hy
      subst hy
      rintro rfl
      obtain ⟨p, hp, hpe⟩ := List.mem_map.1 hx
      have : hasN ns x = true := List.any_eq_true.2 ⟨p, hp, by simp [hpe]⟩
      rw [hb] at this; cases this
    · exact h3
end Go.Ev
namespace Go.Ev.T
open Go Go.Ev
/-- rows: set, in the order of the names -/
def rsSet (nt : Nat) (s : List UInt8) (w : Row) : List Row → List Row
  | [] => [.str s :: w]
  | r :: l => bif isNm s r then (.str s :: w) :: l.map (ownN nt) else ownN nt r :: rsSet nt s w l
theorem setRows_eq (nt : Nat) (s : List UInt8) (w : Row) : ∀ l, setRows' nt l s w = rsSet nt s w l
  | [] => rfl
  | r :: l => by
    have ih := setRows_eq nt s w l
    unfold setRows' at ih ⊢
    rw [List.findIdx?_cons]
    simp only [rsSet]
    cases isNm s r
    · simp only [Bool.false_eq_true, if_false, cond_false]
      cases hf : l.findIdx? (isNm s) with
      | none => rw [hf] at ih; simp only [Option.map_none, List.map_cons, List.cons_append]; rw [← ih]
      | some i => rw [hf] at ih; simp only [Option.map_some, List.map_cons, upd]; rw [← ih]
    · simp [upd]
theorem nm_ownN (nt : Nat) (r : Row) (hm : mayV (vlAt r 1) = true) : nmOf (ownN nt r) = nmOf r := by
  have h1 := vl_ownAt nt r 1
  rw [hm, cond_true, vlOf_eq] at h1
  unfold nmOf ownN
  simp only [nth_zero, toS_str]
  congr 1
theorem nms_own (nt : Nat) (l : List Row) (h : (nmsOf l).all mayNm = true) : nmsOf (l.map (ownN nt)) = nmsOf l := by
  simp only [nmsOf, List.map_map]
  refine List.map_congr_left fun r hr => nm_ownN nt r ?_
  have := List.all_eq_true.1 h (nmOf r) (List.mem_map_of_mem hr)
  simp only [mayNm, Bool.and_eq_true] at this
  exact this.2
theorem nms_set (nt : Nat) (s : List UInt8) (k n : Int) (t : List UInt8) (vl : List Row) (r : Int) : ∀ l, (nmsOf l).all mayNm = true → nmsOf (rsSet nt s (ownC nt k n t vl r) l) = setN s (.mk k n t (vlsOf vl) r) (nmsOf l)
  | [], _ => by
    have h1 := vl_ownC nt k n t vl r
    rw [vlOf_eq] at h1
    simp only [rsSet, nmsOf, List.map_cons, List.map_nil, setN]
    congr 1
    unfold nmOf
    simp only [nth_zero, toS_str]
    congr 1
  | x :: l, h => by
    have h' : (nmsOf l).all mayNm = true := by simp only [nmsOf, List.map_cons, List.all_cons, Bool.and_eq_true] at h ⊢; exact h.2
    have hx : mayV (vlAt x 1) = true := by
      simp only [nmsOf, List.map_cons, List.all_cons, Bool.and_eq_true, mayNm] at h
      exact h.1.2
    have ih := nms_set nt s k n t vl r l h'
    have h1 := vl_ownC nt k n t vl r
    rw [vlOf_eq] at h1
    have ho := nms_own nt l h'
    simp only [rsSet]
    show nmsOf _ = setN s _ (nmOf x :: nmsOf l)
    simp only [setN]
    have hi : isNm s x = decide ((nmOf x).1 = s) := rfl
    rw [hi]
    cases decide ((nmOf x).1 = s)
    · simp only [cond_false]
      show nmOf (ownN nt x) :: nmsOf (rsSet nt s (ownC nt k n t vl r) l) = _
      rw [ih, nm_ownN nt x hx]
    · simp only [cond_true]
      show nmOf (.str s :: ownC nt k n t vl r) :: nmsOf (l.map (ownN nt)) = _
      rw [ho]
      congr 1
      unfold nmOf
      simp only [nth_zero, toS_str]
      congr 1
/-- what is got -/
theorem getR_vl (nt : Nat) (s : List UInt8) : ∀ l, (nmsOf l).all mayNm = true → vlOf (getR nt l s) = gv (nmsOf l) s ∧ (l.find? (fun r => decide ((nth .u r 0).toS = s))).isSome = hasN (nmsOf l) s
  | [], _ => by
    constructor
    · simp only [getR, List.find?_nil, nmsOf, List.map_nil, gv]; rw [vlOf_eq]; rfl
    · rfl
  | x :: l, h => by
    have h' : (nmsOf l).all mayNm = true := by simp only [nmsOf, List.map_cons, List.all_cons, Bool.and_eq_true] at h ⊢; exact h.2
    have hx : mayV (vlAt x 1) = true := by
      simp only [nmsOf, List.map_cons, List.all_cons, Bool.and_eq_true, mayNm] at h
      exact h.1.2
    have ih := getR_vl nt s l h'
    have hg : gv (nmsOf (x :: l)) s = match (bif decide ((nmOf x).1 = s) then some (nmOf x) else (nmsOf l).find? fun p => decide (p.1 = s)) with | some p => p.2 | none => vl0 := by
      unfold gv nmsOf
      rw [List.map_cons, List.find?_cons]
      cases decide ((nmOf x).1 = s) <;> rfl
    have hh : hasN (nmsOf (x :: l)) s = (decide ((nmOf x).1 = s) || hasN (nmsOf l) s) := rfl
    rw [hg, hh]
    unfold getR at ih ⊢
    rw [List.find?_cons]
    have hi : decide ((nth .u x 0).toS = s) = decide ((nmOf x).1 = s) := rfl
    rw [hi]
    cases decide ((nmOf x).1 = s)
    · simp only [cond_false, Bool.false_or]; exact ih
    · simp only [cond_true, Bool.true_or, Option.isSome_some, and_true]
      rw [vl_ownAt, hx]; rfl
end Go.Ev.T
