/- Going over the statements of a code, as a list. Plain Lean, no program in sight. -/
import Derived.Test.YtljiamlnpmhpmaaWalk
set_option linter.unusedVariables false
set_option linter.unusedSimpArgs false
namespace Go.Ev
open Go

mutual
/-- a statement and all that stands in it, in the order of the text, with their depths -/
def flS : Sm → Int → List (Int × Sm)
  | .mk op nm sec ab wh a b t e c ws, d => (d, .mk op nm sec ab wh a b t e c ws) :: (flL t (w64 (d + 1)) ++ (flL e (w64 (d + 1)) ++ flL c (w64 (d + 1))))
def flL : List Sm → Int → List (Int × Sm)
  | [], _ => []
  | s :: ss, d => flS s d ++ flL ss d
end
section
variable {σ : Type} (f : Int → Int → Sm → σ → Bool × σ)
def wkF : List (Int × Sm) → Int → σ → Bool × Int × σ
  | [], k, st => (true, k, st)
  | (d, s) :: r, k, st => bif decide (512 < k) then (false, w64 (k + 1), st) else onB ((f k d s st).1, w64 (k + 1), (f k d s st).2) fun k st => wkF r k st
theorem onB_onB {r : Bool × Int × σ} {g h : Int → σ → Bool × Int × σ} : onB (onB r g) h = onB r fun k st => onB (g k st) h := by
  obtain ⟨b, k, st⟩ := r
  cases b <;> rfl
theorem onB_end {r : Bool × Int × σ} : onB r (fun k st => (true, k, st)) = r := by
  obtain ⟨b, k, st⟩ := r
  cases b <;> rfl
theorem wkF_append : ∀ (l r : List (Int × Sm)) (k : Int) (st : σ), wkF f (l ++ r) k st = onB (wkF f l k st) fun k st => wkF f r k st
  | [], r, k, st => rfl
  | (d, s) :: l, r, k, st => by
    simp only [List.cons_append, wkF]
    cases decide (512 < k)
    · simp only [cond_false, onB_onB]
      congr 1
      funext k st
      exact wkF_append l r k st
    · rfl
mutual
theorem wkS_fl : ∀ (s : Sm) (d k : Int) (st : σ), wkS f s d k st = wkF f (flS s d) k st
  | .mk op nm sec ab wh a b t e c ws, d, k, st => by
    simp only [wkS, flS, wkF]
    congr 2
    funext k st
    rw [wkF_append, wkL_fl t]
    congr 1
    funext k st
    rw [wkF_append, wkL_fl e]
    congr 1
    funext k st
    exact wkL_fl c _ _ _
theorem wkL_fl : ∀ (ss : List Sm) (d k : Int) (st : σ), wkL f ss d k st = wkF f (flL ss d) k st
  | [], d, k, st => rfl
  | s :: ss, d, k, st => by
    simp only [wkL, flL]
    rw [wkF_append, wkS_fl s]
    congr 1
    funext k st
    exact wkL_fl ss _ _ _
end
end
theorem flL_append : ∀ (l r : List Sm) (d : Int), flL (l ++ r) d = flL l d ++ flL r d
  | [], r, d => rfl
  | s :: l, r, d => by simp only [List.cons_append, flL, flL_append l r d, List.append_assoc]
mutual
/-- the statements alone do not hang on the depth -/
theorem flS_snd : ∀ (s : Sm) (d d' : Int), (flS s d).map (·.2) = (flS s d').map (·.2)
  | .mk op nm sec ab wh a b t e c ws, d, d' => by
    simp only [flS, List.map_cons, List.map_append]
    rw [flL_snd t, flL_snd e, flL_snd c]
theorem flL_snd : ∀ (ss : List Sm) (d d' : Int), (flL ss d).map (·.2) = (flL ss d').map (·.2)
  | [], d, d' => rfl
  | s :: ss, d, d' => by
    simp only [flL, List.map_append]
    rw [flS_snd s, flL_snd ss]
end
/-- all statements of a code -/
def allS (ss : List Sm) : List Sm := (flL ss 0).map (·.2)
theorem allS_of (ss : List Sm) (d : Int) : (flL ss d).map (·.2) = allS ss := flL_snd ss d 0
theorem allS_append (l r : List Sm) : allS (l ++ r) = allS l ++ allS r := by simp only [allS, flL_append, List.map_append]
theorem allS_cons (op : Int) (nm sec : List UInt8) (ab wh : Int) (a b : Ex) (t e c : List Sm) (ws : List (List UInt8)) (ss : List Sm) :
    allS (.mk op nm sec ab wh a b t e c ws :: ss) = .mk op nm sec ab wh a b t e c ws :: (allS t ++ (allS e ++ allS c)) ++ allS ss := by
  simp only [allS, flL, flS, List.map_cons, List.map_append, List.cons_append]
  rw [flL_snd t _ 0, flL_snd e _ 0, flL_snd c _ 0]
/-- Check, over the list: none: all may be -/
def ck : List Sm → Int → Option (Int × Int)
  | [], _ => none
  | s :: r, k => bif decide (k = 512) then some (512, 4) else bif !maySm s then some (k, 160) else ck r (k + 1)
theorem w64_succ {k : Int} (h0 : 0 ≤ k) (h1 : k < 4611686018427387904) : w64 (k + 1) = k + 1 := wrap_i64 (by omega) (by omega)
theorem wkF_chk : ∀ (l : List (Int × Sm)) (k at_ : Int), 0 ≤ k → k ≤ 512 → (wkF chkF l k (at_, 0)).2.2 = (ck (l.map (·.2)) k).getD (at_, 0) ∧ (wkF chkF l k (at_, 0)).1 = (ck (l.map (·.2)) k).isNone
  | [], k, at_, h0, h1 => ⟨rfl, rfl⟩
  | (d, s) :: r, k, at_, h0, h1 => by
    have e1 : decide (512 < k) = false := by simp; omega
    simp only [wkF, e1, cond_false, chkF, chk, List.map_cons, ck]
    by_cases hk : k = 512
    · subst hk
      simp only [decide_true, cond_true, onB]
      exact ⟨rfl, rfl⟩
    · have e2 : decide (k = 512) = false := by simp [hk]
      simp only [e2, cond_false]
      cases hm : maySm s
      · simp only [Bool.not_false, cond_true, onB]
        exact ⟨rfl, rfl⟩
      · simp only [Bool.not_true, cond_false, decide_true, onB, cond_true, w64_succ h0 (by omega)]
        exact wkF_chk r (k + 1) at_ (by omega) (by omega)
theorem ck_none : ∀ (l : List Sm) (k : Int), 0 ≤ k → k ≤ 512 → ((ck l k).isNone = true ↔ l.all maySm = true ∧ k + l.length ≤ 512)
  | [], k, h0, h1 => by simp [ck]; omega
  | s :: r, k, h0, h1 => by
    simp only [ck]
    by_cases hk : k = 512
    · subst hk
      simp only [decide_true, cond_true]
      simp; omega
    · have e2 : decide (k = 512) = false := by simp [hk]
      simp only [e2, cond_false]
      cases hm : maySm s
      · simp [hm]
      · simp only [Bool.not_true, cond_false]
        rw [ck_none r (k + 1) (by omega) (by omega)]
        simp only [List.all_cons, hm, Bool.true_and, List.length_cons]
        constructor
        · rintro ⟨a, b⟩; exact ⟨a, by omega⟩
        · rintro ⟨a, b⟩; exact ⟨a, by omega⟩
theorem ck_long : ∀ (l : List Sm) (k : Int), 0 ≤ k → k ≤ 512 → l.all maySm = true → 512 < k + l.length → ck l k = some (512, 4)
  | [], k, h0, h1, ha, hl => by simp at hl; omega
  | s :: r, k, h0, h1, ha, hl => by
    simp only [ck]
    by_cases hk : k = 512
    · subst hk; simp
    · have e2 : decide (k = 512) = false := by simp [hk]
      simp only [List.all_cons, Bool.and_eq_true] at ha
      simp only [e2, cond_false, ha.1, Bool.not_true]
      exact ck_long r (k + 1) (by omega) (by omega) ha.2 (by simp only [List.length_cons] at hl; omega)
theorem ck_err : ∀ (l : List Sm) (k : Int) (p : Int × Int), ck l k = some p → p.2 ≠ 0
  | [], k, p, h => by cases h
  | s :: r, k, p, h => by
    simp only [ck] at h
    cases h1 : decide (k = 512)
    · rw [h1] at h
      cases h2 : maySm s
      · rw [h2] at h; simp at h; subst h; show (160 : Int) ≠ 0; decide
      · rw [h2] at h; simp at h; exact ck_err r (k + 1) p h
    · rw [h1] at h; simp at h; subst h; show (4 : Int) ≠ 0; decide
/-- Check's answer -/
def check (ss : List Sm) : Int × Int := (ck (allS ss) 0).getD (0, 0)
/-- may a code be? -/
def mayC (ss : List Sm) : Bool := (ck (allS ss) 0).isNone
theorem mayC_iff (ss : List Sm) : mayC ss = true ↔ (allS ss).all maySm = true ∧ (allS ss).length ≤ 512 := by
  unfold mayC
  rw [ck_none _ 0 (by omega) (by omega)]
  constructor
  · rintro ⟨a, b⟩; exact ⟨a, by omega⟩
  · rintro ⟨a, b⟩; exact ⟨a, by omega⟩
theorem check_wk (ss : List Sm) : (wkL chkF ss 0 0 (0, 0)).2.2 = check ss := by
  rw [wkL_fl]; exact (wkF_chk (flL ss 0) 0 0 (by omega) (by omega)).1
theorem check_ok (ss : List Sm) : decide ((check ss).2 = 0) = mayC ss := by
  unfold check mayC
  cases h : ck (allS ss) 0 with
  | none => rfl
  | some p => have := ck_err _ _ _ h; simp [this]
/-- a walk that goes on -/
theorem wkF_on {σ : Type} (g : Int → Int → Sm → σ → σ) : ∀ (l : List (Int × Sm)) (k : Int) (st : σ), 0 ≤ k → k + l.length ≤ 513 →
    (wkF (fun k d s st => (true, g k d s st)) l k st).1 = true ∧ (wkF (fun k d s st => (true, g k d s st)) l k st).2.1 = k + l.length
  | [], k, st, h0, h1 => by simp [wkF]
  | (d, s) :: r, k, st, h0, h1 => by
    simp only [List.length_cons] at h1
    have e1 : decide (512 < k) = false := by simp; omega
    simp only [wkF, e1, cond_false, onB, cond_true, w64_succ h0 (by omega)]
    have := wkF_on g r (k + 1) (g k d s st) (by omega) (by omega)
    refine ⟨this.1, ?_⟩
    rw [this.2, List.length_cons]; omega
theorem wkF_fold {σ : Type} (g : Sm → σ → σ) : ∀ (l : List (Int × Sm)) (k : Int) (st : σ), 0 ≤ k → k + l.length ≤ 513 →
    (wkF (fun _ _ s st => (true, g s st)) l k st).2.2 = (l.map (·.2)).foldl (fun st s => g s st) st
  | [], k, st, h0, h1 => by simp [wkF]
  | (d, s) :: r, k, st, h0, h1 => by
    simp only [List.length_cons] at h1
    have e1 : decide (512 < k) = false := by simp; omega
    simp only [wkF, e1, cond_false, onB, cond_true, w64_succ h0 (by omega), List.map_cons, List.foldl_cons]
    exact wkF_fold g r (k + 1) (g s st) (by omega) (by omega)
end Go.Ev
