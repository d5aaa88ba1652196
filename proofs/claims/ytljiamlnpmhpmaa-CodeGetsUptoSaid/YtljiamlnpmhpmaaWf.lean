/- Laid as its kind: codes, expressions, names. -/
import Derived.Test.YtljiamlnpmhpmaaRow
import Derived.Test.YtljiamlnpmhpmaaWalk
set_option linter.unusedVariables false
set_option linter.unusedSimpArgs false
namespace Go.Ev
open Go
theorem ly58 : (ly T.L 58).cells = [.int .u8, .str, .str, .int .u8, .int .u8, .int .u8, .int .i64, .str, .sl 26, .int .u8, .int .i64, .str, .sl 26, .sl 58, .sl 58, .sl 58, .sl 9] := by kernel_rfl
theorem ex_int {k : IntKind} {c : AV} (h : exCell (.int k) c = true) : ∃ n, c = .int k n := by
  cases c <;> simp [exCell] at h
  subst h; exact ⟨_, rfl⟩
theorem ex_sl {e : Nat} {c : AV} (h : exCell (.sl e) c = true) : ∃ cp rows, c = .ps 0 e cp rows := by
  cases c <;> simp [exCell] at h
  obtain ⟨h1, h2⟩ := h
  subst h1 h2; exact ⟨_, _, rfl⟩
theorem ex_str {c : AV} (h : exCell .str c = true) : ∃ s, c = .str s := by
  cases c <;> simp [exCell] at h
  exact ⟨_, rfl⟩
theorem exRow_nth : ∀ {ks : List CK} {r : Row} (j : Nat) {k : CK}, exRow ks r = true → ks[j]? = some k → exCell k (nth .u r j) = true
  | [], [], j, k, _, h => by simp at h
  | k' :: ks, c :: cs, 0, k, h, h' => by
    simp only [exRow, Bool.and_eq_true] at h
    simp at h'; subst h'
    exact h.1
  | k' :: ks, c :: cs, j + 1, k, h, h' => by
    simp only [exRow, Bool.and_eq_true] at h
    exact exRow_nth j h.2 (by simpa using h')
theorem wfVL_nth (L : List Ly) : ∀ {r : Row} (j : Nat), wfVL L r = true → j < r.length → wfV L (nth .u r j) = true
  | [], j, _, h => by simp at h
  | c :: cs, 0, h, _ => by simp only [wfVL, Bool.and_eq_true] at h; exact h.1
  | c :: cs, j + 1, h, hj => by
    simp only [wfVL, Bool.and_eq_true] at h
    exact wfVL_nth L j h.2 (by simpa using hj)
theorem wfVR_mem (L : List Ly) {ks : List CK} : ∀ {rows : List Row} {r : Row}, wfVR L ks rows = true → r ∈ rows → exRow ks r = true ∧ wfVL L r = true
  | x :: xs, r, h, hm => by
    simp only [wfVR, Bool.and_eq_true] at h
    rcases List.mem_cons.1 hm with rfl | hm
    · exact h.1
    · exact wfVR_mem L h.2 hm
/-- a cell that is a list's -/
theorem row_list {L : List Ly} {ks : List CK} {r : Row} {j e : Nat} (hx : exRow ks r = true) (hw : wfVL L r = true) (hk : ks[j]? = some (.sl e)) : wfVR L (ly L e).cells (nth .u r j).toR = true := by
  obtain ⟨cp, rows, hq⟩ := ex_sl (exRow_nth j hx hk)
  have hj : j < r.length := by rw [exRow_len hx]; exact (List.getElem?_eq_some_iff.1 hk).1
  have := wfVL_nth L j hw hj
  rw [hq] at this ⊢
  simp only [wfV, Bool.and_eq_true] at this
  exact this.1
theorem row_u8 {L : List Ly} {ks : List CK} {r : Row} {j : Nat} (hx : exRow ks r = true) (hw : wfVL L r = true) (hk : ks[j]? = some (.int .u8)) : inU8 (nth .u r j).toI = true := by
  obtain ⟨n, hq⟩ := ex_int (exRow_nth j hx hk)
  have hj : j < r.length := by rw [exRow_len hx]; exact (List.getElem?_eq_some_iff.1 hk).1
  have := wfVL_nth L j hw hj
  rw [hq] at this ⊢
  simp only [wfV] at this
  have := bounds_u8 this
  show inU8 n = true
  unfold inU8
  rw [decide_eq_true this.1, decide_eq_true (by omega : n < 256)]; rfl
theorem wf_sms : ∀ (m : Nat) (rows : List Row), T.szR rows < m → wfVR T.L (ly T.L 58).cells rows = true → wfL (smsOf rows) = true
  | 0, rows, h, _ => by omega
  | m + 1, [], _, _ => rfl
  | m + 1, r :: rows, hm, h => by
    have hr := wfVR_mem T.L h List.mem_cons_self
    simp only [wfVR, Bool.and_eq_true] at h
    simp only [T.szR] at hm
    have ih := wf_sms m rows (by omega) h.2
    have s13 := sz_nth r 13
    have s14 := sz_nth r 14
    have s15 := sz_nth r 15
    have b13 := wf_sms m (nth .u r 13).toR (by omega) (row_list (e := 58) hr.1 hr.2 (by rw [ly58]; rfl))
    have b14 := wf_sms m (nth .u r 14).toR (by omega) (row_list (e := 58) hr.1 hr.2 (by rw [ly58]; rfl))
    have b15 := wf_sms m (nth .u r 15).toR (by omega) (row_list (e := 58) hr.1 hr.2 (by rw [ly58]; rfl))
    have u3 := row_u8 (j := 3) hr.1 hr.2 (by rw [ly58]; rfl)
    simp only [smsOf, List.map_cons, wfL]
    rw [smOf_eq]
    simp only [wfS, u3, b13, b14, b15, Bool.true_and]
    exact ih
/-- an argument that is a list -/
theorem arg_list {t e : Nat} (hl : (ly T.L t).cells = [.sl e]) (hk : (ly T.L t).k.agg = false) {r : Row} (h : argOk T.L t r) : ∃ cp rows, r = [.ps 0 e cp rows] ∧ packed (ly T.L t) r = .ps 0 e cp rows ∧ wfVR T.L (ly T.L e).cells rows = true := by
  obtain ⟨h1, h2⟩ := h
  rw [hl] at h1
  have hlen := exRow_len h1
  match r, hlen with
  | [c], _ =>
    simp only [exRow, Bool.and_true] at h1
    obtain ⟨cp, rows, rfl⟩ := ex_sl h1
    refine ⟨cp, rows, rfl, ?_, ?_⟩
    · unfold packed; rw [hk]; rfl
    · simp only [wfVL, wfV, Bool.and_eq_true, Bool.and_true] at h2; exact h2.1
theorem arg_listN {t e : Nat} (hl : (ly T.L t).cells = [.sl e]) (hk : (ly T.L t).k.agg = false) {r : Row} (h : argOk T.L t r) : ∃ cp rows, r = [.ps 0 e cp rows] ∧ packed (ly T.L t) r = .ps 0 e cp rows ∧ wfVR T.L (ly T.L e).cells rows = true ∧ (!cp.nl || empty rows) = true := by
  obtain ⟨cp, rows, h1, h2, h3⟩ := arg_list hl hk h
  refine ⟨cp, rows, h1, h2, h3, ?_⟩
  have := h.2
  rw [h1] at this
  simp only [wfVL, wfV, Bool.and_true, Bool.and_eq_true] at this
  exact this.2.2
end Go.Ev
