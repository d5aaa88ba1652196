/- What codes use: joined, contained. Plain Lean, no program in sight. -/
import Derived.Test.YtljiamlnpmhpmaaF35
set_option linter.unusedVariables false
set_option linter.unusedSimpArgs false
noncomputable section
namespace Go.Ev
open Go
abbrev B8 := BitVec 8
def ofB (x : B8) : Int := (x.toNat : Int)
theorem wrap_u8 {n : Nat} (h : n < 256) : IntKind.wrap .u8 (n : Int) = n := by
  simp [IntKind.wrap, IntKind.signed, IntKind.bits]; omega
theorem ofInt_ofB (x : B8) : BitVec.ofInt 8 (ofB x) = x := by
  unfold ofB
  apply BitVec.eq_of_toNat_eq
  simp
theorem bits_or (x y : B8) : bitsOf .or .u8 (ofB x) (ofB y) = ofB (x ||| y) := by
  show IntKind.wrap .u8 ((BitVec.ofInt 8 (ofB x) ||| BitVec.ofInt 8 (ofB y)).toNat : Int) = _
  rw [ofInt_ofB, ofInt_ofB, wrap_u8 (by exact (x ||| y).isLt)]; rfl
theorem bits_and (x : B8) (n : Int) : bitsOf .and .u8 n 63 = ofB (BitVec.ofInt 8 n &&& 63#8) := by
  show IntKind.wrap .u8 ((BitVec.ofInt 8 n &&& BitVec.ofInt 8 63).toNat : Int) = _
  rw [wrap_u8 (by exact (BitVec.ofInt 8 n &&& BitVec.ofInt 8 63).isLt)]; rfl
theorem bits_andNot (x y : B8) : bitsOf .andNot .u8 (ofB x) (ofB y) = ofB (x &&& ~~~y) := by
  show IntKind.wrap .u8 ((BitVec.ofInt 8 (ofB x) &&& ~~~BitVec.ofInt 8 (ofB y)).toNat : Int) = _
  rw [ofInt_ofB, ofInt_ofB, wrap_u8 (by exact (x &&& ~~~y).isLt)]; rfl
abbrev UB := B8 × Bool × Bool
def joinU (a b : UB) : UB := (a.1 ||| b.1, a.2.1 || b.2.1, a.2.2 || b.2.2)
/-- what one statement uses -/
def ub : Sm → UB
  | .mk op nm sec ab wh a b t e c ws => (bif decide (op = 2) then BitVec.ofInt 8 ab &&& 63#8 else bif decide (op = 9) then 1#8 else 0#8, !decide (op = 2) && !decide (op = 9) && decide (op = 3), !decide (op = 2) && !decide (op = 9) && !decide (op = 3) && decide (op = 7) && named a)
def ubL : List Sm → UB
  | [] => (0#8, false, false)
  | s :: l => joinU (ub s) (ubL l)
def ofU (u : UB) : Int × Bool × Bool := (ofB u.1, u.2.1, u.2.2)
theorem join1_ofB (x : B8) (n : Int) : join1 (ofB x) n = ofB (x ||| (BitVec.ofInt 8 n &&& 63#8)) := by
  unfold join1
  rw [bits_and x, bits_or]
theorem ub_low (s : Sm) : (ub s).1 &&& 63#8 = (ub s).1 := by
  cases s
  rename_i op _ _ ab _ _ _ _ _ _ _
  simp only [ub]
  cases decide (op = 2)
  · cases decide (op = 9)
    · simp only [cond_false]; decide
    · simp only [cond_false, cond_true]; decide
  · simp only [cond_true]
    rw [BitVec.and_assoc]; rfl
theorem us_ub (s : Sm) (u : UB) (hu : u.1 &&& 63#8 = u.1) : us s (ofU u) = ofU (joinU u (ub s)) := by
  obtain ⟨x, p, q⟩ := u
  simp only at hu
  have h0 : join1 0 (ofB x) = ofB x := by
    have := join1_ofB 0#8 (ofB x)
    rw [ofInt_ofB, hu] at this
    have hz : ofB 0#8 = 0 := rfl
    rw [hz] at this
    rw [this]; congr 1; simp
  have h1 : BitVec.ofInt 8 1 &&& 63#8 = 1#8 := by decide
  cases s
  rename_i op _ _ ab _ a _ _ _ _ _
  simp only [us, ofU, joinU, ub, h0, join1_ofB, h1]
  cases decide (op = 2) <;> cases decide (op = 9) <;> cases decide (op = 3) <;> cases decide (op = 7) <;> simp
theorem joinU_low {u v : UB} (hu : u.1 &&& 63#8 = u.1) (hv : v.1 &&& 63#8 = v.1) : (joinU u v).1 &&& 63#8 = (joinU u v).1 := by
  simp only [joinU]
  rw [BitVec.and_comm, BitVec.and_or_distrib_left, BitVec.and_comm _ u.1, BitVec.and_comm _ v.1, hu, hv]
theorem joinU_assoc (a b c : UB) : joinU (joinU a b) c = joinU a (joinU b c) := by
  simp only [joinU, BitVec.or_assoc, Bool.or_assoc]
theorem joinU_zero (a : UB) : joinU a (0#8, false, false) = a := by
  obtain ⟨x, p, q⟩ := a
  simp [joinU]
theorem zero_joinU (a : UB) : joinU (0#8, false, false) a = a := by
  obtain ⟨x, p, q⟩ := a
  simp [joinU]
theorem fold_us : ∀ (l : List Sm) (u : UB), u.1 &&& 63#8 = u.1 → l.foldl (fun u s => us s u) (ofU u) = ofU (joinU u (ubL l))
  | [], u, hu => by simp only [List.foldl_nil, ubL, joinU_zero]
  | s :: l, u, hu => by
    simp only [List.foldl_cons, ubL]
    rw [us_ub s u hu, fold_us l _ (joinU_low hu (ub_low s)), joinU_assoc]
theorem ubL_append : ∀ (l r : List Sm), ubL (l ++ r) = joinU (ubL l) (ubL r)
  | [], r => by simp only [List.nil_append, ubL, zero_joinU]
  | s :: l, r => by simp only [List.cons_append, ubL, ubL_append l r, joinU_assoc]
theorem uses_ub {ss : List Sm} (h : mayC ss = true) : usesC ss = ofU (ubL (allS ss)) := by
  unfold usesC
  rw [h, cond_true]
  have := fold_us (allS ss) (0#8, false, false) rfl
  rw [zero_joinU] at this
  exact this
theorem uses_append {l r : List Sm} (h : mayC l = true) (h' : mayC r = true) (h'' : mayC (l ++ r) = true) :
    (usesC (l ++ r)).1 = bitsOf .or .u8 (usesC l).1 (usesC r).1 ∧ (usesC (l ++ r)).2.1 = ((usesC l).2.1 || (usesC r).2.1) ∧ (usesC (l ++ r)).2.2 = ((usesC l).2.2 || (usesC r).2.2) := by
  rw [uses_ub h, uses_ub h', uses_ub h'', allS_append, ubL_append]
  exact ⟨(bits_or _ _).symm, rfl, rfl⟩
/-- a part of a code uses no more -/
theorem uses_part {l m p q : List Sm} (h : mayC l = true) (h' : mayC m = true) (hl : allS l = p ++ (allS m ++ q)) :
    bitsOf .andNot .u8 (usesC m).1 (usesC l).1 = 0 ∧ ((usesC m).2.1 = true → (usesC l).2.1 = true) ∧ ((usesC m).2.2 = true → (usesC l).2.2 = true) := by
  rw [uses_ub h, uses_ub h', hl, ubL_append, ubL_append]
  refine ⟨?_, fun hq => ?_, fun hq => ?_⟩
  · have h0 : ∀ x y z : B8, x &&& ~~~(y ||| (x ||| z)) = 0#8 := fun x y z => by
      apply BitVec.eq_of_getLsbD_eq
      intro i hi
      simp only [BitVec.getLsbD_and, BitVec.getLsbD_not, BitVec.getLsbD_or, BitVec.getLsbD_zero, hi, decide_true, Bool.true_and]
      cases x.getLsbD i <;> cases y.getLsbD i <;> rfl
    simp only [ofU, bits_andNot, joinU, h0]
    rfl
  · simp only [ofU, joinU] at hq ⊢
    simp [hq]
  · simp only [ofU, joinU] at hq ⊢
    simp [hq]
theorem mayC_part {l m p q : List Sm} (h : mayC l = true) (hl : allS l = p ++ (allS m ++ q)) : mayC m = true := by
  rw [mayC_iff] at h ⊢
  rw [hl] at h
  simp only [List.all_append, Bool.and_eq_true, List.length_append] at h
  exact ⟨h.1.2.1, by omega⟩
/-- the blocks of a code's statement -/
theorem blocks_part {l : List Sm} {i : Nat} {op : Int} {nm sec : List UInt8} {ab wh : Int} {a b : Ex} {t e c : List Sm} {ws : List (List UInt8)} (hi : l[i]? = some (.mk op nm sec ab wh a b t e c ws)) :
    (∃ p q, allS l = p ++ (allS t ++ q)) ∧ (∃ p q, allS l = p ++ (allS e ++ q)) ∧ (∃ p q, allS l = p ++ (allS c ++ q)) := by
  obtain ⟨hlt, hget⟩ := List.getElem?_eq_some_iff.1 hi
  have h1 : allS l = allS (l.take i) ++ (.mk op nm sec ab wh a b t e c ws :: (allS t ++ (allS e ++ allS c)) ++ allS (l.drop (i + 1))) := by
    rw [← allS_cons, ← allS_append, ← hget, ← List.drop_eq_getElem_cons hlt, List.take_append_drop]
  refine ⟨⟨allS (l.take i) ++ [.mk op nm sec ab wh a b t e c ws], allS e ++ (allS c ++ allS (l.drop (i + 1))), ?_⟩, ⟨allS (l.take i) ++ (.mk op nm sec ab wh a b t e c ws :: allS t), allS c ++ allS (l.drop (i + 1)), ?_⟩, ⟨allS (l.take i) ++ (.mk op nm sec ab wh a b t e c ws :: (allS t ++ allS e)), allS (l.drop (i + 1)), ?_⟩⟩ <;> rw [h1] <;> simp [List.append_assoc]
end Go.Ev
