/- Opening an argument: what is read as data is an abstract value whose memory is fixed; its size is bounded by the reading's bulk. -/
import Derived.Test.YtljiamlnpmhpmaaCfg
import Derived.Test.YtljiamlnpmhpmaaSpec0
import Derived.Test.YtljiamlnpmhpmaaRows
import Derived.ChangeArms
import Derived.OpenShut
set_option linter.unusedVariables false
set_option linter.unusedSimpArgs false
namespace Go.Ev
open Go
open Go.Proofs.Ytljiamlnpmhpmaa.Rows (uptoBulk uptoBulkAll)

/-- a cell just as its kind is laid -/
def exCell : CK → AV → Bool
  | .int k, .int k' _ => decide (k = k')
  | .bool, .bool _ => true
  | .str, .str _ => true
  | .sl e, .ps tg e' _ _ => Nat.beq tg 0 && Nat.beq e e'
  | _, _ => false
def exRow : List CK → Row → Bool
  | [], [] => true
  | k :: ks, c :: cs => exCell k c && exRow ks cs
  | _, _ => false
mutual
/-- all is laid as its kind is; numbers are in their bounds, texts and lists no longer than a machine's -/
def wfV (L : List Ly) : AV → Bool
  | .int k n => (Lit.int k n).wf
  | .str s => decide (s.length ≤ maxLen)
  | .ps _ e cp rows => wfVR L (ly L e).cells rows && (decide (rows.length ≤ maxLen) && (!cp.nl || empty rows))
  | .agg cs => wfVL L cs
  | .bool _ => true
  | _ => false
def wfVL (L : List Ly) : List AV → Bool
  | [] => true
  | c :: cs => wfV L c && wfVL L cs
def wfVR (L : List Ly) (ks : List CK) : List (List AV) → Bool
  | [] => true
  | r :: rs => exRow ks r && wfVL L r && wfVR L ks rs
end
theorem wfVL_append (L : List Ly) : ∀ (a b : List AV), wfVL L (a ++ b) = (wfVL L a && wfVL L b)
  | [], b => by simp [wfVL]
  | c :: a, b => by simp only [List.cons_append, wfVL, wfVL_append L a b, Bool.and_assoc]
theorem szL_append : ∀ (a b : List AV), T.szL (a ++ b) = T.szL a + T.szL b
  | [], b => by simp [T.szL]
  | c :: a, b => by simp only [List.cons_append, T.szL, szL_append a b]; omega
theorem exRow_ok : ∀ {ks : List CK} {r : Row}, exRow ks r = true → okRow ks r = true
  | [], [], _ => rfl
  | k :: ks, c :: cs, h => by
    simp only [exRow, Bool.and_eq_true] at h
    simp only [okRow, Bool.and_eq_true]
    refine ⟨?_, exRow_ok h.2⟩
    have := h.1
    cases k <;> cases c <;> simp_all [exCell, okCell]
theorem exRow_append : ∀ {ks js : List CK} {r q : Row}, exRow ks r = true → exRow js q = true → exRow (ks ++ js) (r ++ q) = true
  | [], js, [], q, _, h => h
  | k :: ks, js, c :: cs, q, h, h' => by
    simp only [exRow, Bool.and_eq_true, List.cons_append] at h ⊢
    exact ⟨h.1, exRow_append h.2 h'⟩
theorem exRow_len : ∀ {ks : List CK} {r : Row}, exRow ks r = true → r.length = ks.length
  | [], [], _ => rfl
  | k :: ks, c :: cs, h => by
    simp only [exRow, Bool.and_eq_true] at h
    simp [exRow_len h.2]
theorem intKind_dec (k k' : IntKind) : decide (k = k') = true → k = k' := of_decide_eq_true
def eqCK : CK → CK → Bool
  | .int k, .int k' => decide (k = k')
  | .bool, .bool => true | .str, .str => true | .sl e, .sl e' => Nat.beq e e' | .fn, .fn => true | .ptr, .ptr => true | .map, .map => true | .iface, .iface => true | .bad, .bad => true
  | _, _ => false
theorem eqCK_eq : ∀ {a b : CK}, eqCK a b = true → a = b := by
  intro a b h
  cases a <;> cases b <;> simp_all [eqCK]
def eqCKs : List CK → List CK → Bool
  | [], [] => true
  | a :: al, b :: bs => eqCK a b && eqCKs al bs
  | _, _ => false
theorem eqCKs_eq : ∀ {a b : List CK}, eqCKs a b = true → a = b
  | [], [], _ => rfl
  | a :: al, b :: bs, h => by
    simp only [eqCKs, Bool.and_eq_true] at h
    rw [eqCK_eq h.1, eqCKs_eq h.2]
def repCK (n : Nat) (l : List CK) : List CK := match n with | 0 => [] | n + 1 => l ++ repCK n l
theorem repCK_len : ∀ (n : Nat) (l : List CK), (repCK n l).length = n * l.length
  | 0, l => by simp [repCK]
  | n + 1, l => by simp only [repCK, List.length_append, repCK_len n l, Nat.succ_mul]; omega
def cellsFrom (L : List Ly) : List (Nat × Nat) → List CK
  | [] => []
  | p :: fs => (ly L p.2).cells ++ cellsFrom L fs
def offsOk (L : List Ly) : Nat → List (Nat × Nat) → Bool
  | _, [] => true
  | o, p :: fs => Nat.beq p.1 o && offsOk L (o + (ly L p.2).cells.length) fs
/-- a type that can be opened here, its parts being among T -/
def rdTy (L : List Ly) (T : List Nat) (t : Nat) : Bool :=
  match (ly L t).k with
  | .int k => eqCKs (ly L t).cells [.int k]
  | .bool => eqCKs (ly L t).cells [.bool]
  | .str => eqCKs (ly L t).cells [.str]
  | .slice e => eqCKs (ly L t).cells [.sl e] && T.contains e && Nat.blt 0 (ly L e).cells.length
  | .struct fs => eqCKs (ly L t).cells (cellsFrom L fs) && offsOk L 0 fs && fs.all fun p => T.contains p.2
  | .array n e => eqCKs (ly L t).cells (repCK n (ly L e).cells) && T.contains e
  | _ => false

section
variable {P : Program} {L : List Ly} {w : World} {H : Type} {enc : TypeId × Value → H} {spare : Nat → Bool}

theorem cell_lt {a : Addr} {v : Value} (h : w.cell? a = some v) : a.block < w.heap.size := by
  unfold World.cell? at h
  split at h
  · rename_i hq; exact (Array.getElem?_eq_some_iff.1 hq).1
  · cases h
theorem cells_of {b off : Nat} : ∀ {r : Row} {vs : List Value} {k : Nat}, LRel (Cx.start L w) [] r vs → (∀ j, j < vs.length → w.cell? ⟨b, off + (k + j), none⟩ = vs[j]?) → CellsRel (Cx.start L w) [] 0 b (off + k) r
  | [], _, _, _, _ => by simp only [CellsRel]
  | c :: cs, _, k, h, hc => by
    simp only [LRel] at h
    obtain ⟨v, vs, rfl, h1, h2⟩ := h
    simp only [CellsRel]
    have h0 := hc 0 (by simp)
    simp only [List.getElem?_cons_zero, Nat.add_zero] at h0
    refine ⟨⟨v, h0, ⟨rfl, cell_lt h0⟩, h1⟩, ?_⟩
    have := cells_of (b := b) (off := off) (k := k + 1) h2 fun j hj => by
      have := hc (j + 1) (by simp; omega)
      simp only [List.getElem?_cons_succ] at this
      rw [← this, show k + 1 + j = k + (j + 1) by omega]
    rw [show off + k + 1 = off + (k + 1) by omega]
    exact this
theorem cellsOf_ly {t : Nat} {i : TypeInfo} {z : Value} (T : Ty P (ly L t) t i z) : P.cellsOf t = (ly L t).cells.length := by
  simp [Program.cellsOf, T.info, T.size]
theorem add_none (b off n : Nat) : (⟨b, off, none⟩ : Addr).add n = ⟨b, off + n, none⟩ := addr_add b off n
/-- what is told of one reading -/
def Opened (L : List Ly) (w : World) (t : Nat) (cs : List Value) (d : DataW H) : Prop :=
  ∃ r : Row, LRel (Cx.start L w) [] r cs ∧ exRow (ly L t).cells r = true ∧ wfVL L r = true ∧ T.szL r + 1 ≤ 2 * uptoBulk d

theorem rows_of {e len b off : Nat} {elems : List (DataW H × List MemPlace)} (hl : elems.length = len)
    (h : ∀ i, i < len → ∃ vs x, elems[i]? = some x ∧ Opened L w e vs x.1 ∧ vs.length = (ly L e).cells.length ∧ ∀ j, j < vs.length → w.cell? ⟨b, off + (i * (ly L e).cells.length + j), none⟩ = vs[j]?) :
    ∀ (k i : Nat), i + k = len → ∃ rows : List Row, rows.length = k ∧ RowsRel (Cx.start L w) [] 0 (ly L e).cells b (off + i * (ly L e).cells.length) rows ∧ wfVR L (ly L e).cells rows = true ∧ T.szR rows ≤ 2 * uptoBulkAll ((elems.drop i).map (·.1)) := by
  intro k
  induction k with
  | zero => intro i hi; exact ⟨[], rfl, by simp only [RowsRel], rfl, by simp [T.szR]⟩
  | succ k ih =>
    intro i hi
    obtain ⟨rows, h1, h2, h3, h4⟩ := ih (i + 1) (by omega)
    obtain ⟨vs, x, hx, ⟨r, g1, g2, g3, g4⟩, hvl, hc⟩ := h i (by omega)
    refine ⟨r :: rows, by simp [h1], ?_, by simp only [wfVR, g2, g3, h3, Bool.and_self], ?_⟩
    · simp only [RowsRel]
      refine ⟨⟨exRow_ok g2, cells_of (k := i * (ly L e).cells.length) g1 hc⟩, ?_⟩
      rw [show off + i * (ly L e).cells.length + (ly L e).cells.length = off + (i + 1) * (ly L e).cells.length by rw [Nat.succ_mul]; omega]
      exact h2
    · have hlt : i < elems.length := by omega
      have hx' : elems[i] = x := by rw [List.getElem?_eq_getElem hlt] at hx; exact Option.some.inj hx
      rw [List.drop_eq_getElem_cons hlt, hx']
      simp only [List.map_cons, uptoBulkAll, T.szR]
      omega
theorem parts_of {cs : List Value} : ∀ (fs : List (Nat × Nat)) (o : Nat) (ys : List (DataW H × List MemPlace)), offsOk L o fs = true → o + (cellsFrom L fs).length = cs.length → ys.length = fs.length →
    (∀ (i : Nat) (p : Nat × Nat), fs[i]? = some p → ∃ y : DataW H × List MemPlace, ys[i]? = some y ∧ Opened L w p.2 ((cs.drop p.1).take (ly L p.2).cells.length) y.1) →
    ∃ r, LRel (Cx.start L w) [] r (cs.drop o) ∧ exRow (cellsFrom L fs) r = true ∧ wfVL L r = true ∧ T.szL r ≤ 2 * uptoBulkAll (ys.map (·.1))
  | [], o, ys, _, hl, hy, _ => by
    simp only [cellsFrom, List.length_nil] at hl
    refine ⟨[], ?_, rfl, rfl, by simp [T.szL]⟩
    rw [List.drop_eq_nil_of_le (by omega)]
    simp only [LRel]
  | p :: fs, o, ys, ho, hl, hy, h => by
    simp only [offsOk, Bool.and_eq_true, nbeq] at ho
    simp only [cellsFrom, List.length_append] at hl
    cases ys with
    | nil => simp at hy
    | cons y ys =>
      obtain ⟨y', hy', r, g1, g2, g3, g4⟩ := h 0 p rfl
      obtain rfl : y = y' := by simpa using hy'
      obtain ⟨q, h1, h2, h3, h4⟩ := parts_of (cs := cs) fs (o + (ly L p.2).cells.length) ys ho.2 (by omega) (by simpa using hy) fun i p hp => by
        obtain ⟨y, a, b⟩ := h (i + 1) p (by simpa using hp)
        exact ⟨y, by simpa using a, b⟩
      refine ⟨r ++ q, ?_, exRow_append g2 h2, by rw [wfVL_append, g3, h3]; rfl, ?_⟩
      · rw [ho.1] at g1
        have := lrel_append g1 h1
        rwa [← List.drop_drop, List.take_append_drop] at this
      · rw [szL_append]
        simp only [List.map_cons, uptoBulkAll]
        omega
theorem reps_of {cs : List Value} {e : Nat} : ∀ (n i : Nat) (ys : List (DataW H × List MemPlace)), (i + n) * (ly L e).cells.length = cs.length → ys.length = n →
    (∀ j, j < n → ∃ y : DataW H × List MemPlace, ys[j]? = some y ∧ Opened L w e ((cs.drop ((i + j) * (ly L e).cells.length)).take (ly L e).cells.length) y.1) →
    ∃ r, LRel (Cx.start L w) [] r (cs.drop (i * (ly L e).cells.length)) ∧ exRow (repCK n (ly L e).cells) r = true ∧ wfVL L r = true ∧ T.szL r ≤ 2 * uptoBulkAll (ys.map (·.1))
  | 0, i, ys, hl, hy, _ => by
    refine ⟨[], ?_, rfl, rfl, by simp [T.szL]⟩
    rw [List.drop_eq_nil_of_le (by simp only [Nat.add_zero] at hl; omega)]
    simp only [LRel]
  | n + 1, i, ys, hl, hy, h => by
    cases ys with
    | nil => simp at hy
    | cons y ys =>
      obtain ⟨y', hy', r, g1, g2, g3, g4⟩ := h 0 (by omega)
      obtain rfl : y = y' := by simpa using hy'
      obtain ⟨q, h1, h2, h3, h4⟩ := reps_of (cs := cs) (e := e) n (i + 1) ys (by rw [← hl]; congr 1; omega) (by simpa using hy) fun j hj => by
        obtain ⟨y, a, b⟩ := h (j + 1) (by omega)
        exact ⟨y, by simpa using a, by rw [show i + 1 + j = i + (j + 1) by omega]; exact b⟩
      refine ⟨r ++ q, ?_, exRow_append g2 h2, by rw [wfVL_append, g3, h3]; rfl, ?_⟩
      · rw [Nat.add_zero] at g1
        have := lrel_append g1 h1
        rwa [Nat.succ_mul, ← List.drop_drop, List.take_append_drop] at this
      · rw [szL_append]
        simp only [List.map_cons, uptoBulkAll]
        omega

theorem open_trod (LK : LOk P L) (TS : List Nat) (hT : TS.all (rdTy L TS) = true) : ∀ (n t : Nat) (cs : List Value) (x : DataW H × List MemPlace), TS.contains t = true → DataW.trod enc P w 0 spare true n t cs = some x → Opened L w t cs x.1
  | 0, t, cs, x, _, h => by simp [DataW.trod] at h
  | n + 1, t, cs, x, ht, h => by
    have hr := List.all_eq_true.1 hT t (by simpa using ht)
    have hk : (ly L t).k.known = true := by
      unfold rdTy at hr
      cases hq : (ly L t).k <;> rw [hq] at hr <;> first | rfl | (simp at hr)
    obtain ⟨i, z, Tt⟩ := LK.ty hk
    cases hq : (ly L t).k with
    | int k =>
      simp only [rdTy, hq] at hr
      obtain ⟨m, rfl, hx, hw⟩ := DataW.trod_int (Tt.int hq) h
      subst hx
      refine ⟨[.int k m], by simp [LRel, VRel], by rw [eqCKs_eq hr]; simp [exRow, exCell], by simp [wfVL, wfV, hw], by simp [T.szL, T.sz, uptoBulk]⟩
    | bool =>
      simp only [rdTy, hq] at hr
      obtain ⟨m, rfl, hx⟩ := DataW.trod_bool (Tt.bool hq) h
      subst hx
      refine ⟨[.bool m], by simp [LRel, VRel], by rw [eqCKs_eq hr]; simp [exRow, exCell], by simp [wfVL, wfV], by simp [T.szL, T.sz, uptoBulk]⟩
    | str =>
      simp only [rdTy, hq] at hr
      obtain ⟨s, rfl, hx, hw⟩ := DataW.trod_string (Tt.str hq) h
      subst hx
      refine ⟨[.str s.data.toList], by simp [LRel, VRel], by rw [eqCKs_eq hr]; simp [exRow, exCell], ?_, ?_⟩
      · simp only [wfVL, wfV, Bool.and_true, decide_eq_true_eq]; exact hw
      · simp only [T.szL, T.sz, uptoBulk]; omega
    | slice e =>
      simp only [rdTy, hq, Bool.and_eq_true] at hr
      obtain ⟨⟨hc, he⟩, hpos⟩ := hr
      have hre := List.all_eq_true.1 hT e (by simpa using he)
      have hke : (ly L e).k.known = true := by
        unfold rdTy at hre
        cases hq : (ly L e).k <;> rw [hq] at hre <;> first | rfl | (simp at hre)
      obtain ⟨ie, ze, Te⟩ := LK.ty hke
      have hsz := cellsOf_ly Te
      rcases DataW.trod_slice (Tt.slice hq) h with ⟨rfl, rfl⟩ | ⟨a, len, cap, elems, rest, m, hm, rfl, rfl, hb, hl, hmx, hel, hE, _⟩
      · refine ⟨[nilPs e], ?_, by rw [eqCKs_eq hc]; simp [exRow, exCell, nilPs], by simp [wfVL, wfV, wfVR, nilPs, empty], by simp [T.szL, T.sz, T.szR, uptoBulk, nilPs]⟩
        simp only [LRel, nilPs, VRel]
        exact ⟨_, _, rfl, ⟨none, 0, rfl, Nat.le_refl _, fun _ => ⟨rfl, rfl⟩, fun h => (by cases h), fun _ => rfl, fun h => absurd rfl h⟩, rfl⟩
      · obtain rfl : m = n := by omega
        rw [hsz] at hE
        -- the rows
        have hpos' : 0 < (ly L e).cells.length := by
          have := hpos; simp only [Nat.blt] at this; exact Nat.le_of_ble_eq_true this
        have hrows : ∃ rows : List Row, rows.length = len ∧ wfVR L (ly L e).cells rows = true ∧ T.szR rows ≤ 2 * uptoBulkAll (elems.map (·.1)) ∧ (rows ≠ [] → ∃ b off, some a = some ⟨b, off, none⟩ ∧ RowsRel (Cx.start L w) [] 0 (ly L e).cells b off rows) := by
          by_cases h0 : len = 0
          · subst h0
            exact ⟨[], rfl, rfl, by simp [T.szR], fun h => absurd rfl h⟩
          · have get : ∀ i, i < len → ∃ vs x, elems[i]? = some x ∧ Opened L w e vs x.1 ∧ vs.length = (ly L e).cells.length ∧ ∀ j, j < vs.length → w.cell? (a.add (i * (ly L e).cells.length) |>.add j) = vs[j]? := by
              intro i hi
              have h1 := hE i hi
              have hlt : i < elems.length := by omega
              rw [List.getElem?_eq_getElem hlt, Option.bind_eq_some_iff] at h1
              obtain ⟨vs, h2, h3⟩ := h1
              unfold World.cells? at h2
              split at h2
              · have hlen := mapM_some_length h2
                rw [List.length_range] at hlen
                refine ⟨vs, elems[i], List.getElem?_eq_getElem hlt, open_trod LK TS hT _ e vs _ he h3, hlen, fun j hj => ?_⟩
                exact mapM_some_get h2 j j (by rw [List.getElem?_range (by omega)])
              · cases h2
            have hspot : a.spot = none := by
              obtain ⟨vs, x, _, _, hvl, hcl⟩ := get 0 (by omega)
              have h1 := hcl 0 (by omega)
              rw [List.getElem?_eq_getElem (by omega)] at h1
              simpa [Addr.add] using World.cell?_spot h1
            obtain ⟨b, off, sp⟩ := a
            simp only at hspot
            subst hspot
            obtain ⟨rows, g1, g2, g3, g4⟩ := rows_of (L := L) (w := w) (b := b) (off := off) hel (fun i hi => by
              obtain ⟨vs, x, k1, k2, k3, k4⟩ := get i hi
              refine ⟨vs, x, k1, k2, k3, fun j hj => ?_⟩
              have := k4 j hj
              rwa [add_none, add_none, Nat.add_assoc] at this) len 0 (by omega)
            exact ⟨rows, g1, g3, by simpa using g4, fun _ => ⟨b, off, rfl, by simpa using g2⟩⟩
        obtain ⟨rows, g1, g2, g3, g4⟩ := hrows
        refine ⟨[.ps 0 e ⟨false, false⟩ rows], ?_, by rw [eqCKs_eq hc]; simp [exRow, exCell], ?_, ?_⟩
        · simp only [LRel]
          refine ⟨_, _, rfl, ?_, rfl⟩
          rw [vrel_ps]
          exact ⟨some a, cap, by rw [g1], by omega, fun h => (by cases h), fun _ => rfl, fun h => (by cases h), g4⟩
        · simp only [wfVL, wfV, g2, Bool.true_and, Bool.and_true, Bool.not_false, Bool.true_or, decide_eq_true_eq]; omega
        · simp only [T.szL, T.sz, uptoBulk]; omega
    | struct fs =>
      simp only [rdTy, hq, Bool.and_eq_true] at hr
      obtain ⟨⟨hc, ho⟩, hf⟩ := hr
      obtain ⟨gs, hu, hfs⟩ := Tt.struct hq
      obtain ⟨xs, m, hm, hx, hl, hxl, hF⟩ := DataW.trod_struct hu h
      obtain rfl : m = n := by omega
      subst hx
      rw [cellsOf_ly Tt] at hl
      have hcells := eqCKs_eq hc
      obtain ⟨r, g1, g2, g3, g4⟩ := parts_of (L := L) (w := w) (cs := cs) fs 0 xs ho (by rw [← hcells]; omega) (by rw [hxl, hfs]; simp) fun i p hp => by
        rw [hfs, List.getElem?_map] at hp
        cases hg : gs.toList[i]? with
        | none => rw [hg] at hp; cases hp
        | some f =>
          rw [hg] at hp
          simp only [Option.map_some, Option.some.injEq] at hp
          subst hp
          have hmem : (f.offset, f.type) ∈ fs := by
            rw [hfs]; exact List.mem_map.2 ⟨f, List.mem_of_getElem? hg, rfl⟩
          have hin := List.all_eq_true.1 hf _ hmem
          have hre := List.all_eq_true.1 hT f.type (by simpa using hin)
          have hke : (ly L f.type).k.known = true := by
            unfold rdTy at hre
            cases hq : (ly L f.type).k <;> rw [hq] at hre <;> first | rfl | (simp at hre)
          obtain ⟨ie, ze, Te⟩ := LK.ty hke
          have h1 := hF i f (by simpa using hg)
          have hi : i < xs.length := by
            have := (List.getElem?_eq_some_iff.1 hg).1
            rw [hxl]; simpa using this
          rw [List.getElem?_eq_getElem hi, cellsOf_ly Te] at h1
          exact ⟨xs[i], List.getElem?_eq_getElem hi, open_trod LK TS hT _ f.type _ _ hin h1⟩
      refine ⟨r, by simpa using g1, by rw [hcells]; exact g2, g3, ?_⟩
      simp only [uptoBulk]; omega
    | array k e =>
      simp only [rdTy, hq, Bool.and_eq_true] at hr
      obtain ⟨hc, he⟩ := hr
      have hre := List.all_eq_true.1 hT e (by simpa using he)
      have hke : (ly L e).k.known = true := by
        unfold rdTy at hre
        cases hq : (ly L e).k <;> rw [hq] at hre <;> first | rfl | (simp at hre)
      obtain ⟨ie, ze, Te⟩ := LK.ty hke
      obtain ⟨xs, m, hm, hx, hl, hxl, hF⟩ := DataW.trod_array (Tt.array hq) h
      obtain rfl : m = n := by omega
      subst hx
      rw [cellsOf_ly Tt, eqCKs_eq hc, repCK_len] at hl
      rw [cellsOf_ly Te] at hF
      obtain ⟨r, g1, g2, g3, g4⟩ := reps_of (L := L) (w := w) (cs := cs) (e := e) k 0 xs (by rw [Nat.zero_add]; exact hl.symm) hxl fun j hj => by
        have h1 := hF j hj
        have hi : j < xs.length := by omega
        rw [List.getElem?_eq_getElem hi] at h1
        exact ⟨xs[j], List.getElem?_eq_getElem hi, open_trod LK TS hT _ e _ _ he (by rw [Nat.zero_add]; exact h1)⟩
      refine ⟨r, by simpa using g1, by rw [eqCKs_eq hc]; exact g2, g3, ?_⟩
      simp only [uptoBulk]; omega
    | map => simp [rdTy, hq] at hr
    | fn => simp [rdTy, hq] at hr
    | ptr => simp [rdTy, hq] at hr
    | iface => simp [rdTy, hq] at hr
    | other => simp [rdTy, hq] at hr
end
end Go.Ev
