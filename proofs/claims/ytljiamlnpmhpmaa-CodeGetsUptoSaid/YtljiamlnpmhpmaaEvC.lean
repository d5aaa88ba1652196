/- The evaluator and its soundness, text 3 of 4. -/
import Derived.Test.YtljiamlnpmhpmaaEvB
import Derived.LoopN
set_option linter.unusedVariables false
set_option linter.unusedSimpArgs false
/- The engine, part 19: one operation, whatever it is. -/
namespace Go.Ev
open Go

/-- What a call that the evaluator makes comes to. -/
def CallAOk (P : Program) (E : Env) : Prop := ∀ {C : Cx} {h : List AObj} {f : Nat} {args : List AV} {v : AV} {h' : List AObj} {vs : List Value}, C.L = E.L → HRel C h → LRel C h args vs → callA E h f args = some (v, h') →
  (∃ fn, P.funcs[f]? = some fn ∧ fn.body.isNone = false ∧ (fn.name == "runtime.NumGoroutine") = false) ∧
  Calls P f vs.toArray C.w fun
    | .returned x, w' => ∃ C', C'.w = w' ∧ Step E.nt C h C' h' ∧ HRel C' h' ∧ VRel C' h' v x
    | _, _ => False

section
variable {P : Program} {C C' : Cx} {h h' : List AObj} {t : List AV} {a : Act} {o : Oper} {nt : Nat}

theorem lrel_opds (T : TRel C h t a) : ∀ (xs : List Operand), LRel C h (xs.map (opd t)) (xs.map a.eval)
  | [] => by simp only [List.map_nil, LRel]
  | x :: xs => by simp only [List.map_cons, LRel]; exact ⟨_, _, rfl, vrel_opd T x, lrel_opds T xs⟩
theorem ok1_some {r : Option AV} {v : AV} (hv : ok1 r h = some (true, v, h')) : r = some v ∧ h' = h := by
  simp only [ok1, Option.bind_eq_some_iff, Option.some.injEq, Prod.mk.injEq, true_and] at hv
  obtain ⟨w, h1, rfl, rfl⟩ := hv
  exact ⟨h1, rfl⟩
theorem ok2_some {r : Option (Bool × AV)} {v : AV} (hv : ok2 r h = some (true, v, h')) : r = some (true, v) ∧ h' = h := by
  simp only [ok2, Option.bind_eq_some_iff, Option.some.injEq, Prod.mk.injEq] at hv
  obtain ⟨⟨b, w⟩, h1, h2, rfl, rfl⟩ := hv
  simp only at h2
  subst h2
  exact ⟨h1, rfl⟩
theorem ok3_some {r : Option (AV × List AObj)} {v : AV} (hv : ok3 r = some (true, v, h')) : r = some (v, h') := by
  simp only [ok3, Option.bind_eq_some_iff, Option.some.injEq, Prod.mk.injEq, true_and] at hv
  obtain ⟨⟨b, w⟩, h1, rfl, rfl⟩ := hv
  exact h1
theorem op_ok {E : Env} {v : AV} (LK : LOk P C.L) (hE : C.L = E.L) (HC : CallAOk P E) (H : HRel C h) (T : TRel C h t a) (hv : opA E t h o.op = some (true, v, h')) : OpOk P E.nt C h a o v h' := by
  have rd : ReadOk P C h a o v → h' = h → OpOk P E.nt C h a o v h' := fun g he => by subst he; exact g.op H
  unfold opA at hv
  rw [← hE] at hv
  split at hv
  · rename_i x ho
    simp only [Option.some.injEq, Prod.mk.injEq, true_and] at hv
    obtain ⟨rfl, rfl⟩ := hv
    exact rd (read_move T (.inl ho)) rfl
  · rename_i x ho
    simp only [Option.some.injEq, Prod.mk.injEq, true_and] at hv
    obtain ⟨rfl, rfl⟩ := hv
    exact rd (read_move T (.inr ho)) rfl
  · rename_i c x y ho
    split at hv
    case h_2 => cases hv
    rename_i b hc
    simp only [Option.some.injEq, Prod.mk.injEq, true_and] at hv
    obtain ⟨rfl, rfl⟩ := hv
    exact rd (read_pick T ho hc) rfl
  · rename_i e ho
    simp only [cond_eq_ite] at hv
    split at hv
    case isFalse => cases hv
    rename_i hk
    simp only [Option.some.injEq, Prod.mk.injEq, true_and] at hv
    obtain ⟨rfl, rfl⟩ := hv
    exact op_alloc LK H ho hk
  · rename_i e x ho
    simp only [cond_eq_ite, Bool.and_eq_true] at hv
    split at hv
    case isFalse => cases hv
    rename_i hk
    simp only [Option.some.injEq, Prod.mk.injEq, true_and] at hv
    obtain ⟨rfl, rfl⟩ := hv
    exact op_box H T ho hk.1 hk.2
  · rename_i ty ps ho
    obtain ⟨h1, h2⟩ := ok1_some hv
    exact rd (read_build LK T ho h1) h2
  · rename_i ty n ps ho
    exact op_buildSlice LK H T ho (ok3_some hv)
  · rename_i ty x ho
    obtain ⟨h1, h2⟩ := ok1_some hv
    exact rd (read_load LK H T ho h1) h2
  · rename_i ty x y ho
    simp only [Option.bind_eq_some_iff, Option.some.injEq, Prod.mk.injEq] at hv
    obtain ⟨⟨b1, h1⟩, hst, hb, rfl, rfl⟩ := hv
    simp only at hb
    subst hb
    exact op_store LK H T ho (storeT_ok hst)
  · rename_i x ho
    obtain ⟨h1, h2⟩ := ok1_some hv
    exact rd (read_nilCheck T ho h1) h2
  · rename_i op ty x y ty' ho
    obtain ⟨h1, h2⟩ := ok2_some hv
    exact rd (read_binOp LK H T ho (binT_ok h1)) h2
  · rename_i op ty x ho
    obtain ⟨h1, h2⟩ := ok1_some hv
    exact rd (read_unOp T ho h1) h2
  · rename_i src dst x ho
    exact op_convert LK H T ho (ok3_some hv)
  · rename_i f xs ys ho
    simp only [cond_eq_ite] at hv
    split at hv
    case isFalse => cases hv
    rename_i hk
    simp only [Option.some.injEq, Prod.mk.injEq, true_and] at hv
    obtain ⟨rfl, rfl⟩ := hv
    exact rd (read_makeFunc T ho hk) rfl
  · rename_i ty ho
    split at hv
    case h_2 => cases hv
    rename_i kt vt hk
    simp only [Option.some.injEq, Prod.mk.injEq, true_and] at hv
    obtain ⟨rfl, rfl⟩ := hv
    exact op_makeMap LK H ho hk
  · rename_i ty x y ho
    exact op_makeSlice LK H T ho hv
  · rename_i ty x lo hi mx ho
    obtain ⟨h1, h2⟩ := ok2_some hv
    exact rd (read_slice LK H T ho h1) h2
  · rename_i ty x f ho
    obtain ⟨h1, h2⟩ := ok1_some hv
    exact rd (read_fieldAddr LK T ho h1) h2
  · rename_i ty x f ho
    split at hv
    case h_2 => cases hv
    rename_i cs hx
    obtain ⟨h1, h2⟩ := ok1_some hv
    exact rd (read_field LK T ho hx h1) h2
  · rename_i ty x y ho
    split at hv
    case h_2 => cases hv
    rename_i k n hy
    obtain ⟨h1, h2⟩ := ok2_some hv
    exact rd (read_indexAddr LK H T ho hy h1) h2
  · rename_i ty x y ho
    split at hv
    case h_2 => cases hv
    rename_i k n hy
    obtain ⟨h1, h2⟩ := ok2_some hv
    exact rd (read_index LK T ho hy h1) h2
  · rename_i ty m k ok ho
    obtain ⟨h1, h2⟩ := ok1_some hv
    exact rd (read_lookup LK H T ho h1) h2
  · rename_i ty m k x ho
    simp only [Option.bind_eq_some_iff, Option.some.injEq, Prod.mk.injEq, true_and] at hv
    obtain ⟨h1, hst, rfl, rfl⟩ := hv
    exact op_mapSet LK H T (.inl ho) hst
  · rename_i ty m k x ho
    simp only [Option.bind_eq_some_iff, Option.some.injEq, Prod.mk.injEq, true_and] at hv
    obtain ⟨h1, hst, rfl, rfl⟩ := hv
    exact op_mapSet LK H T (.inr ho) hst
  · rename_i x i ho
    split at hv
    case h_2 => cases hv
    rename_i cs hx
    simp only [cond_eq_ite, nble] at hv
    split at hv
    case isFalse => cases hv
    rename_i hi
    simp only [Option.some.injEq, Prod.mk.injEq, true_and] at hv
    obtain ⟨rfl, rfl⟩ := hv
    exact rd (read_extract T ho hx hi) rfl
  · rename_i c ho
    split at hv
    · rename_i hc
      split at hv
      case h_2 => cases hv
      rename_i t0 ts x h0 h1
      obtain ⟨g1, g2⟩ := ok1_some hv
      simp only [Option.bind_eq_some_iff, Option.some.injEq] at g1
      obtain ⟨n, g3, rfl⟩ := g1
      exact rd (read_len (ty := t0) LK H T ho hc (by rw [h0]; rfl) h1 (by rw [h0]; simp) g3) g2
    · rename_i hc
      split at hv
      case h_2 => cases hv
      rename_i t0 t1 x y h0 h1
      exact op_append LK H T ho hc h0 h1 hv
    · rename_i f hc
      split at hv
      case h_2 => cases hv
      rename_i g caps hf
      have hcall := ok3_some hv
      have hfv := vrel_opd T f
      rw [hf] at hfv
      simp only [VRel] at hfv
      obtain ⟨vs, hfv, hcaps⟩ := hfv
      obtain ⟨⟨fn, hfn, hb, hname⟩, hcalls⟩ := HC hE H (lrel_append (lrel_opds T c.args.toList) hcaps) hcall
      intro K Q hK
      unfold Oper.wp
      have hr : (execOp a.eval o).run P C.w = .ok (.enter g (c.args.toList.map a.eval ++ vs).toArray) C.w := by
        have he : (c.args.toList.map a.eval ++ vs).toArray = c.args.map a.eval ++ vs.toArray := by apply Array.ext'; simp
        have hn' : ¬ fn.name = "runtime.NumGoroutine" := by simpa using hname
        have hb' : fn.body ≠ none := by intro hq; rw [hq] at hb; cases hb
        rw [he]
        simp [execOp, ho, resolve, hc, hfv, Deferred.ofValue, invoke, callFunc, hfn, hb', hn']
      rw [hr]
      refine Calls.mono hcalls fun e w' he => ?_
      cases e with
      | returned x =>
        obtain ⟨C', rfl, s1, s2, s3⟩ := he
        exact hK C' x s1 s2 s3
      | panicked _ => exact he.elim
      | outgrown => exact he.elim
    · cases hv
  · cases hv
end
end Go.Ev
/- The engine, part 20: regions in the order of the text. -/
namespace Go.Ev
open Go

/-- The evaluator's state beside the machine's, in a function that was entered at C0, h0. -/
structure SRel (nt : Nat) (C0 : Cx) (h0 : List AObj) (C : Cx) (s : St) (a : Act) : Prop where
  step : Step nt C0 h0 C s.h
  h : HRel C s.h
  t : TRel C s.h s.t a
  d : a.defers = []
/-- A continuation that comes to r makes Φ good. -/
def KOk {ρ : Type} (nt : Nat) (C0 : Cx) (h0 : List AObj) (r : ρ) (k : St → Option ρ) (Φ : Act → World → Prop) : Prop :=
  ∀ C s a, SRel nt C0 h0 C s a → k s = some r → Φ a C.w

section
variable {P : Program} {C0 C C' : Cx} {h0 h h' : List AObj} {t : List AV} {a : Act} {o : Oper} {nt : Nat} {ρ : Type} {r : ρ} {E : Env}

theorem upd_self {α : Type} (d : α) : ∀ {xs : List α} {i : Nat} {y : α}, nth d xs i = y → upd xs i y = xs
  | [], _, _, _ => rfl
  | x :: xs, 0, y, h => by simp only [nth] at h; subst h; rfl
  | x :: xs, i + 1, y, h => by simp only [nth] at h; simp only [upd, upd_self d h]
theorem put_defers' (a : Act) (d : Option Nat) (v : Value) : (a.put d v).defers = a.defers := by cases d <;> rfl
theorem put_length (t : List AV) (d : Option Nat) (v : AV) : (put t d v).length = t.length := by cases d <;> simp [put, upd_length]
theorem callK_eq {f : Nat} {args : List AV} {K : AV → List AObj → Option ρ} : callK E h f args K = (callA E h f args).bind fun p => K p.1 p.2 := by
  unfold callK callA
  cases frzArgs E.nt h (sig E.F f).args args with
  | none => rfl
  | some p =>
    simp only [Option.bind_some]
    cases renL p.2 (reach p.2 3 (refsL p.1 [])) p.1 with
    | none => rfl
    | some args' =>
      simp only [Option.bind_some]
      cases renObjs p.2 (reach p.2 3 (refsL p.1 [])) (reach p.2 3 (refsL p.1 [])) with
      | none => rfl
      | some hs =>
        simp only [Option.bind_some]
        cases noDup (reach p.2 3 (refsL p.1 [])) with
        | false => rfl
        | true =>
          simp only [cond_true]
          cases E.call f args' hs <;> rfl
theorem callOf_op {op : Op} {f : Nat} {args : List AV} (hc : callOf t op = some (f, args)) : opA E t h op = ok3 (callA E h f args) := by
  unfold callOf at hc
  split at hc
  case h_2 => cases hc
  split at hc
  case h_2 => cases hc
  rename_i c _ fo hcal
  split at hc
  case h_2 => cases hc
  rename_i g caps hf
  simp only [Option.some.injEq, Prod.mk.injEq] at hc
  obtain ⟨rfl, rfl⟩ := hc
  simp only [opA, hcal, hf]
theorem runOp_eq {o : Oper} {rest : St → Option ρ} {s : St} : runOp E o rest s = runOp0 E o rest s := by
  unfold runOp
  split
  · rename_i f args hc
    rw [callK_eq]
    unfold runOp0
    rw [callOf_op hc]
    cases callA E s.h f args <;> rfl
  · rfl
/-- one operation, and on -/
theorem run_ok {o : Oper} {s : St} {rest : St → Option ρ} {K : Act → World → Prop} {Q : Exit → Act → World → Prop} (LK : LOk P C0.L) (hE : C0.L = E.L) (HC : CallAOk P E) (R : SRel E.nt C0 h0 C s a) (hk : KOk E.nt C0 h0 r rest K) (hv : runOp E o rest s = some r) : o.wp P a C.w K Q := by
  rw [runOp_eq] at hv
  unfold runOp0 at hv
  split at hv
  case h_2 => cases hv
  rename_i c v h1 hop
  cases c
  case false => cases hv
  simp only [cond_true] at hv
  have hL : C.L = C0.L := R.step.ext.L
  refine op_ok (o := o) (by rw [hL]; exact LK) (hL.trans hE) HC R.h R.t hop K Q fun C' x s1 H1 v1 => ?_
  refine hk C' ⟨put s.t o.dst v, h1⟩ (a.put o.dst x) ⟨R.step.trans s1, H1, ?_, by rw [put_defers']; exact R.d⟩ hv
  exact trel_put ⟨R.t.1, fun i => vrel_ext s1.ext (R.t.2 i)⟩ o.dst v1
theorem guard_ok {ops : Array Oper} {o : Oper} {g : Nat} {want : Bool} {d : Nat} (hg : o.guard = some (g, want)) (hd : dstOf ops.toList g = some d) : Region.wanted o (yielded ops a.tmps) = (match a.tmps[d]? with | some (.bool b) => b == want | _ => false) := by
  have h1 : (ops[g]?).bind (·.dst) = some d := by
    unfold dstOf at hd
    rw [Array.getElem?_toList] at hd
    cases hq : ops[g]? with
    | none => rw [hq] at hd; cases hd
    | some o => rw [hq] at hd; exact hd
  unfold Region.wanted
  simp only [hg, yielded, h1, Option.bind_some]
  cases hq : a.tmps[d]? with
  | none => rfl
  | some v => cases v <;> simp
theorem trel_get (T : TRel C h t a) {d : Nat} (hd : d < t.length) : ∃ v, a.tmps[d]? = some v ∧ VRel C h (nth .u t d) v := by
  have hlt : d < a.tmps.size := by rw [← T.1]; exact hd
  refine ⟨a.tmps[d], Array.getElem?_eq_getElem hlt, ?_⟩
  have := T.2 d
  simpa [Array.getD, hlt] using this
theorem nth_ne {α : Type} {d : α} {xs : List α} {i : Nat} {y : α} (h : nth d xs i = y) (hne : y ≠ d) : i < xs.length := by
  apply Nat.lt_of_not_le
  intro hle
  exact hne (h.symm.trans (nth_ge d xs i hle))
theorem skip_ok {o : Oper} {s : St} {rest : St → Option ρ} {K : Act → World → Prop} (R : SRel nt C0 h0 C s a) (hk : KOk nt C0 h0 r rest K) (hv : rest ⟨put s.t o.dst (.tup []), s.h⟩ = some r) : K (a.put o.dst undef) C.w :=
  hk C ⟨put s.t o.dst (.tup []), s.h⟩ (a.put o.dst undef) ⟨R.step, R.h, trel_put R.t o.dst (by simp only [VRel]; exact ⟨[], rfl, by simp only [LRel]⟩), by rw [put_defers']; exact R.d⟩ hv
theorem evOps_ok {ops : Array Oper} {Q : Exit → Act → World → Prop} (LK : LOk P C0.L) (hE : C0.L = E.L) (HC : CallAOk P E) {k : St → Option ρ} (hk : KOk E.nt C0 h0 r k (Q .normal)) :
    ∀ (os : List Oper) (i : Nat), ops.toList.drop i = os → KOk E.nt C0 h0 r (evOps E ops.toList os k) (wpOps P ops Q (List.range' i os.length))
  | [], i, hd => by
    intro C s a R hv
    simp only [evOps] at hv
    simp only [List.length_nil, List.range'_zero, wpOps]
    exact hk C s a R hv
  | o :: os, i, hd => by
    intro C s a R hv
    have ih := evOps_ok (ops := ops) (Q := Q) LK hE HC hk os (i + 1) (by rw [← List.drop_drop, hd]; rfl)
    have ho : ops[i]? = some o := by
      have : (ops.toList.drop i)[0]? = some o := by rw [hd]; rfl
      simpa using this
    simp only [List.length_cons, List.range'_succ, wpOps, ho]
    simp only [evOps] at hv
    cases hg : o.guard with
    | none =>
      rw [hg] at hv
      have hw : Region.wanted o (yielded ops a.tmps) = true := by simp [Region.wanted, hg]
      rw [hw, if_pos rfl]
      exact .inl (run_ok LK hE HC R ih hv)
    | some gw =>
      obtain ⟨g, want⟩ := gw
      rw [hg] at hv
      simp only at hv
      cases hdst : dstOf ops.toList g with
      | none => rw [hdst] at hv; cases hv
      | some d =>
        rw [hdst] at hv
        simp only at hv
        rw [guard_ok hg hdst]
        split at hv
        · rename_i b hb
          obtain ⟨v, hv1, hv2⟩ := trel_get R.t (nth_ne hb (by simp))
          rw [hb] at hv2
          simp only [VRel] at hv2
          subst hv2
          rw [hv1]
          simp only
          have hs : ∀ b', b' = b → (⟨upd s.t d (.bool b'), s.h⟩ : St) = s := fun b' he => by subst he; rw [upd_self .u hb]
          have hs' : ∀ b', b' = b → upd s.t d (.bool b') = s.t := fun b' he => by subst he; rw [upd_self .u hb]
          cases b
          · cases want
            · simp only [cond_false, cond_true] at hv
              rw [hs false rfl] at hv
              simp only [BEq.rfl, if_true]
              exact .inl (run_ok LK hE HC R ih hv)
            · simp only [cond_false, cond_true] at hv
              rw [hs' false rfl] at hv
              rw [if_neg (by decide)]
              exact skip_ok R ih hv
          · cases want
            · simp only [cond_false, cond_true] at hv
              rw [hs' true rfl] at hv
              rw [if_neg (by decide)]
              exact skip_ok R ih hv
            · simp only [cond_false, cond_true] at hv
              rw [hs true rfl] at hv
              simp only [BEq.rfl, if_true]
              exact .inl (run_ok LK hE HC R ih hv)
        · rename_i hb
          obtain ⟨v, hv1, hv2⟩ := trel_get R.t (nth_ne hb (by simp))
          rw [hb] at hv2
          simp only [VRel, LRel] at hv2
          obtain ⟨vs, rfl, rfl⟩ := hv2
          rw [hv1]
          simp only
          rw [if_neg (by decide)]
          exact skip_ok R ih hv
        · cases hv
theorem region_ok {id : Nat} {ops : Array Oper} {Q : Exit → Act → World → Prop} (LK : LOk P C0.L) (hE : C0.L = E.L) (HC : CallAOk P E) {k : St → Option ρ} (hk : KOk E.nt C0 h0 r k (Q .normal)) :
    KOk E.nt C0 h0 r (evOps E ops.toList ops.toList k) (fun a w => (Code.region id ops false).wp P Q a w) := fun C s a R hv => by
  refine wp_region ?_
  have := evOps_ok (ops := ops) (Q := Q) LK hE HC hk ops.toList 0 rfl C s a R hv
  rw [List.range_eq_range']
  simpa using this
end
end Go.Ev
/- The engine, part 21: at a loop's head. -/
namespace Go.Ev
open Go

structure Keep (C C' : Cx) : Prop where
  L : C'.L = C.L
  fixed : ∀ t b x, C.S t b x → C'.S t b x ∧ cellAt C'.w b x = cellAt C.w b x
theorem okCell_plain {k : CK} {v : AV} (h : okCell k v = true) : plain v = true := by
  cases k <;> cases v <;> simp [okCell] at h <;> (try rfl)
  rename_i f cs
  cases cs <;> first | rfl | simp [okCell] at h
theorem okRow_plain : ∀ {ks : List CK} {r : Row}, okRow ks r = true → allPlain r = true
  | [], [], _ => rfl
  | [], _ :: _, h => by simp [okRow] at h
  | _ :: _, [], h => by simp [okRow] at h
  | k :: ks, c :: cs, h => by
    simp only [okRow, Bool.and_eq_true] at h
    simp only [allPlain, Bool.and_eq_true]
    exact ⟨okCell_plain h.1, okRow_plain h.2⟩
mutual
theorem plain_vrel {C C' : Cx} {h h' : List AObj} (K : Keep C C') : ∀ {v : AV} {x : Value}, plain v = true → VRel C h v x → VRel C' h' v x
  | .u, _, hp, _ => by simp [plain] at hp
  | .int _ _, _, _, h => by simpa only [VRel] using h
  | .bool _, _, _, h => by simpa only [VRel] using h
  | .str _, _, _, h => by simpa only [VRel] using h
  | .ps tg e c rows, v, _, h => by
    simp only [VRel] at h ⊢
    obtain ⟨a, cap, h1, h2, h3, h4, h5, h6⟩ := h
    refine ⟨a, cap, h1, h2, h3, h4, h5, fun hne => ?_⟩
    obtain ⟨b, off, hb, hr⟩ := h6 hne
    exact ⟨b, off, hb, by rw [K.L]; exact plain_rows K hr⟩
  | .pp tg cs, v, hp, _ => by simp [plain] at hp
  | .own _ _, _, hp, _ => by simp [plain] at hp
  | .sl _ _ _ _, _, hp, _ => by simp [plain] at hp
  | .ptr _ _ _ _, _, hp, _ => by simp [plain] at hp
  | .nilptr, _, _, h => by simpa only [VRel] using h
  | .agg cs, _, hp, _ => by simp [plain] at hp
  | .tup cs, _, hp, _ => by simp [plain] at hp
  | .func none _, _, _, h => by simpa only [VRel] using h
  | .func (some f) (_ :: _), _, hp, _ => by simp [plain] at hp
  | .func (some f) [], _, _, h => by simpa only [VRel, LRel] using h
  | .map _, _, hp, _ => by simp [plain] at hp
  | .nilmap, _, _, h => by simpa only [VRel] using h
  | .iface t x, _, hp, _ => by simp [plain] at hp
  | .niliface, _, _, h => by simpa only [VRel] using h
theorem plain_cells {C C' : Cx} {h h' : List AObj} (K : Keep C C') {tg b : Nat} : ∀ {off : Nat} {cs : List AV}, allPlain cs = true → CellsRel C h tg b off cs → CellsRel C' h' tg b off cs
  | _, [], _, _ => by simp only [CellsRel]
  | off, c :: cs, hp, h => by
    simp only [allPlain, Bool.and_eq_true] at hp
    simp only [CellsRel] at h ⊢
    obtain ⟨⟨v, h1, h2, h3⟩, h4⟩ := h
    exact ⟨⟨v, by rw [(K.fixed tg b off h2).2]; exact h1, (K.fixed tg b off h2).1, plain_vrel K hp.1 h3⟩, plain_cells K hp.2 h4⟩
theorem plain_rows {C C' : Cx} {h h' : List AObj} (K : Keep C C') {tg : Nat} {ks : List CK} {b : Nat} : ∀ {off : Nat} {rs : List (List AV)}, RowsRel C h tg ks b off rs → RowsRel C' h' tg ks b off rs
  | _, [], _ => by simp only [RowsRel]
  | off, r :: rs, h => by
    simp only [RowsRel] at h ⊢
    obtain ⟨⟨h1, h2⟩, h3⟩ := h
    exact ⟨⟨h1, plain_cells K (okRow_plain h1) h2⟩, plain_rows K h3⟩
end

section
variable {P : Program} {C0 C C' : Cx} {h0 h h' : List AObj} {t : List AV} {a : Act} {o : Oper} {nt : Nat}

theorem Keep.refl (C : Cx) : Keep C C := ⟨rfl, fun t b x h => ⟨h, rfl⟩⟩
theorem plain_lrel (K : Keep C C') : ∀ {cs : List AV} {vs : List Value}, allPlain cs = true → LRel C h cs vs → LRel C' h' cs vs
  | [], vs, _, hr => by simpa only [LRel] using hr
  | c :: cs, vs, hp, hr => by
    simp only [allPlain, Bool.and_eq_true] at hp
    simp only [LRel] at hr ⊢
    obtain ⟨v, vs', rfl, g1, g2⟩ := hr
    exact ⟨v, vs', rfl, plain_vrel K hp.1 g1, plain_lrel K hp.2 g2⟩
theorem flat_vrel (K : Keep C C') {v : AV} {x : Value} (hp : flat v = true) (hv : VRel C h v x) : VRel C' h' v x := by
  cases v <;> (try exact plain_vrel K hp hv)
  simp only [VRel] at hv ⊢
  obtain ⟨vs, rfl, hr⟩ := hv
  exact ⟨vs, rfl, plain_lrel K hp hr⟩
theorem flat_lrel (K : Keep C C') : ∀ {cs : List AV} {vs : List Value}, allFlat cs = true → LRel C h cs vs → LRel C' h' cs vs
  | [], vs, _, hr => by simpa only [LRel] using hr
  | c :: cs, vs, hp, hr => by
    simp only [allFlat, Bool.and_eq_true] at hp
    simp only [LRel] at hr ⊢
    obtain ⟨v, vs', rfl, g1, g2⟩ := hr
    exact ⟨v, vs', rfl, flat_vrel K hp.1 g1, flat_lrel K hp.2 g2⟩
theorem okRow_flat {ks : List CK} {g : Bool} {v : AV} (hr : okRow ks v.toCells = true) (hs : if g then ∃ cs, v = .agg cs else oneCell v = true) : flat v = true := by
  have single : v.toCells = [v] → plain v = true := fun he => by
    rw [he] at hr
    have := okRow_plain hr
    simpa [allPlain] using this
  cases v <;> (try exact single rfl)
  exact okRow_plain hr
theorem okKey_plain {k : K} {v : AV} (hk : okKey k v = true) : plain v = true := by
  cases k <;> cases v <;> simp [okKey] at hk <;> rfl
theorem plain_rowAt (K : Keep C C') {e off : Nat} {cs : Array Value} {r : Row} (hr : RowAt C h e cs off r) : RowAt C' h' e cs off r := by
  obtain ⟨h1, vs, h2, h3⟩ := hr
  exact ⟨by rw [K.L]; exact h1, vs, plain_lrel K (okRow_plain h1) h2, h3⟩
theorem plain_ents (K : Keep C C') {kt vt : Nat} : ∀ {es : List (AV × AV)} {xs : List MapEntry}, EntsRel C h kt vt es xs → EntsRel C' h' kt vt es xs
  | [], xs, hr => by simpa only [EntsRel] using hr
  | p :: ps, xs, hr => by
    simp only [EntsRel] at hr ⊢
    obtain ⟨q, qs, rfl, ⟨a1, a2, a3, a4, a5⟩, h2⟩ := hr
    exact ⟨q, qs, rfl, ⟨by rw [K.L]; exact a1, plain_vrel K (okKey_plain a1) a2, by rw [K.L]; exact a3, by rw [K.L]; exact a4, flat_vrel K (okRow_flat a3 a4) a5⟩, plain_ents K h2⟩

/-! ### lowering -/
theorem nblt {x y : Nat} : Nat.blt x y = true ↔ x < y := by simp [Nat.blt, nble]; omega
theorem nth_lowHeap {m n : Nat} : ∀ (hs : List AObj) (k o : Nat), nth .dead (lowHeap m n h k hs) o = if k + o < n then lowObj m n h (k + o) (nth .dead hs o) else .dead
  | [], k, o => by simp [lowHeap, nth, lowObj]
  | x :: xs, k, o => by
    simp only [lowHeap]
    cases hb : Nat.blt k n
    · simp only [cond_false, nth]
      have : ¬ k < n := by rw [← nblt, hb]; decide
      rw [if_neg (by omega)]
    · have hk := nblt.1 hb
      simp only [cond_true]
      cases o with
      | zero => simp only [nth, Nat.add_zero]; rw [if_pos hk]
      | succ o => simp only [nth]; rw [nth_lowHeap xs (k + 1) o]; simp only [show k + 1 + o = k + (o + 1) by omega]
theorem lowHeap_length {m n : Nat} : ∀ (hs : List AObj) (k : Nat), (lowHeap m n h k hs).length = min hs.length (n - k)
  | [], k => by simp [lowHeap]
  | x :: xs, k => by
    simp only [lowHeap]
    cases hb : Nat.blt k n
    · simp only [cond_false, List.length_nil]
      have : ¬ k < n := by rw [← nblt, hb]; decide
      omega
    · have hk := nblt.1 hb
      simp only [cond_true, List.length_cons, lowHeap_length xs (k + 1)]
      omega
theorem low_list {m n : Nat} : ∀ {cs : List AV} {vs : List Value}, lowRef.low n h cs = true → LRel C h cs vs → LRel C (lowHeap m n h 0 h) cs vs
  | [], vs, _, hr => by simpa only [LRel] using hr
  | c :: cs, vs, hl, hr => by
    have hlen : (lowHeap m n h 0 h).length = min h.length n := by rw [lowHeap_length]; omega
    simp only [LRel] at hr ⊢
    obtain ⟨v, vs', rfl, g1, g2⟩ := hr
    unfold lowRef.low at hl
    split at hl
    · rename_i he; cases he
    · rename_i o x y cs' he
      simp only [List.cons.injEq] at he
      obtain ⟨rfl, rfl⟩ := he
      simp only [Bool.and_eq_true, nblt] at hl
      obtain ⟨⟨h1, h2⟩, h3⟩ := hl
      refine ⟨v, vs', rfl, ?_, low_list h3 g2⟩
      simp only [VRel, RefOk] at g1 ⊢
      obtain ⟨q1, q2, q3⟩ := g1
      refine ⟨q1, by omega, ?_⟩
      rw [nth_lowHeap, Nat.zero_add, if_pos h2]
      cases hob : nth .dead h o <;> rw [hob] at h1 q3 <;> simp at h1
      simpa only [lowObj] using q3
    · rename_i o cs' he
      simp only [List.cons.injEq] at he
      obtain ⟨rfl, rfl⟩ := he
      simp only [Bool.and_eq_true, nblt] at hl
      obtain ⟨h2, h3⟩ := hl
      refine ⟨v, vs', rfl, ?_, low_list h3 g2⟩
      simp only [VRel, RefOk] at g1 ⊢
      obtain ⟨q1, q2, q3⟩ := g1
      refine ⟨q1, by omega, ?_⟩
      rw [nth_lowHeap, Nat.zero_add, if_pos h2]
      cases hob : nth .dead h o <;> rw [hob] at q3 <;> simp only [lowObj] <;> first | exact q3 | exact False.elim q3
    · rename_i he
      simp only [List.cons.injEq] at he
      obtain ⟨rfl, rfl⟩ := he
      exact ⟨v, vs', rfl, by simpa only [VRel] using g1, low_list hl g2⟩
    · rename_i he
      simp only [List.cons.injEq] at he
      obtain ⟨rfl, rfl⟩ := he
      exact ⟨v, vs', rfl, by simpa only [VRel] using g1, low_list hl g2⟩
    · rename_i he
      simp only [List.cons.injEq] at he
      obtain ⟨rfl, rfl⟩ := he
      exact ⟨v, vs', rfl, by simpa only [VRel] using g1, low_list hl g2⟩
    · rename_i he
      simp only [List.cons.injEq] at he
      obtain ⟨rfl, rfl⟩ := he
      exact ⟨v, vs', rfl, plain_vrel (Keep.refl C) rfl g1, low_list hl g2⟩
    · cases hl
theorem low_vrel {m n : Nat} {v : AV} {x : Value} (hv : VRel C h v x) : VRel C (lowHeap m n h 0 h) (lowRef m n h v) x := by
  have hlen : (lowHeap m n h 0 h).length = min h.length n := by rw [lowHeap_length]; omega
  have triv : VRel C (lowHeap m n h 0 h) .u x := by simp only [VRel]
  have pl : ∀ b, (b = true → VRel C (lowHeap m n h 0 h) v x) → VRel C (lowHeap m n h 0 h) (bif b then v else .u) x := fun b hb => by
    cases b
    · exact triv
    · exact hb rfl
  have hpl : (lowRef m n h v = bif plain v then v else .u) → VRel C (lowHeap m n h 0 h) (lowRef m n h v) x := fun he => by
    rw [he]; exact pl _ fun hp => plain_vrel (Keep.refl C) hp hv
  cases v <;> (try exact hpl rfl)
  case own o ver =>
    simp only [lowRef]
    cases hb : Nat.blt o n
    · exact triv
    have ho := nblt.1 hb
    simp only [cond_true]
    simp only [VRel, RefOk] at hv
    obtain ⟨q1, q2, q3⟩ := hv
    have hnth := nth_lowHeap (h := h) (m := m) (n := n) h 0 o
    rw [Nat.zero_add, if_pos ho] at hnth
    cases hm : Nat.blt o m
    · simp only [cond_false]
      cases hob : nth .dead h o <;> try exact triv
      rename_i e rows c w fz
      rw [hob] at q3
      simp only [cond_eq_ite, nbeq]
      split
      · rename_i hw
        subst hw
        simp only [VRel, RefOk]
        refine ⟨q1, by omega, ?_⟩
        rw [hnth, hob]
        simp only [lowObj, hm, cond_false]
        exact ⟨Nat.le_refl _, fun _ => q3.2 rfl⟩
      · exact triv
    · simp only [cond_true, VRel, RefOk]
      refine ⟨q1, by omega, ?_⟩
      rw [hnth]
      cases hob : nth .dead h o <;> rw [hob] at q3 <;> simp only [lowObj, hm, cond_true] <;> exact q3
  case sl o ver off len =>
    simp only [lowRef]
    cases hb : Nat.blt o n
    · exact triv
    have ho := nblt.1 hb
    simp only [cond_true]
    simp only [VRel, RefOk] at hv
    obtain ⟨q1, q2, q3⟩ := hv
    have hnth := nth_lowHeap (h := h) (m := m) (n := n) h 0 o
    rw [Nat.zero_add, if_pos ho] at hnth
    cases hm : Nat.blt o m
    · simp only [cond_false]
      cases hob : nth .dead h o <;> try exact triv
      rename_i e rows c w fz
      rw [hob] at q3
      simp only [cond_eq_ite, nbeq]
      split
      · rename_i hw
        subst hw
        simp only [VRel, RefOk]
        refine ⟨q1, by omega, ?_⟩
        rw [hnth, hob]
        simp only [lowObj, hm, cond_false]
        exact ⟨Nat.le_refl _, fun _ => q3.2 rfl⟩
      · exact triv
    · simp only [cond_true, VRel, RefOk]
      refine ⟨q1, by omega, ?_⟩
      rw [hnth]
      cases hob : nth .dead h o <;> rw [hob] at q3 <;> simp only [lowObj, hm, cond_true] <;> exact q3
  case ptr o ver i j =>
    simp only [lowRef]
    cases hb : Nat.blt o n
    · exact triv
    have ho := nblt.1 hb
    simp only [cond_true]
    simp only [VRel, RefOk] at hv
    obtain ⟨q1, q2, q3⟩ := hv
    have hnth := nth_lowHeap (h := h) (m := m) (n := n) h 0 o
    rw [Nat.zero_add, if_pos ho] at hnth
    cases hm : Nat.blt o m
    · simp only [cond_false]
      cases hob : nth .dead h o <;> try exact triv
      · rw [hob] at q3
        simp only [VRel, RefOk]
        refine ⟨q1, by omega, ?_⟩
        rw [hnth, hob]
        simpa only [lowObj] using q3
      · rename_i e rows c w fz
        rw [hob] at q3
        simp only [cond_eq_ite, nbeq]
        split
        · rename_i hw
          subst hw
          simp only [VRel, RefOk]
          refine ⟨q1, by omega, ?_⟩
          rw [hnth, hob]
          simp only [lowObj, hm, cond_false]
          exact ⟨Nat.le_refl _, fun _ => q3.2 rfl⟩
        · exact triv
    · simp only [cond_true, VRel, RefOk]
      refine ⟨q1, by omega, ?_⟩
      rw [hnth]
      cases hob : nth .dead h o <;> rw [hob] at q3 <;> simp only [lowObj, hm, cond_true] <;> exact q3
  case map o =>
    simp only [lowRef]
    cases hb : Nat.blt o n
    · exact triv
    have ho := nblt.1 hb
    simp only [cond_true]
    simp only [VRel, RefOk] at hv ⊢
    obtain ⟨q1, q2, q3⟩ := hv
    refine ⟨q1, by omega, ?_⟩
    rw [nth_lowHeap, Nat.zero_add, if_pos ho]
    cases hob : nth .dead h o <;> rw [hob] at q3 <;> simp only [lowObj] <;> first | exact q3 | exact False.elim q3
  case func f cs =>
    cases cs with
    | nil => exact hpl rfl
    | cons c cs =>
      simp only [lowRef]
      refine pl _ fun hl => ?_
      cases f with
      | none => simpa only [VRel] using hv
      | some f =>
        simp only [VRel] at hv ⊢
        obtain ⟨vs, h1, h2⟩ := hv
        exact ⟨vs, h1, low_list hl h2⟩
  case agg cs =>
    simp only [lowRef]
    exact pl _ fun hp => flat_vrel (Keep.refl C) (v := .agg cs) hp hv
  case tup cs =>
    simp only [lowRef]
    refine pl _ fun hp => ?_
    simp only [VRel] at hv ⊢
    obtain ⟨vs, h1, h2⟩ := hv
    exact ⟨vs, h1, flat_lrel (Keep.refl C) hp h2⟩
  case pp tg cs =>
    simp only [lowRef]
    refine pl _ fun hp => ?_
    simp only [VRel] at hv ⊢
    obtain ⟨b, off, h1, h2⟩ := hv
    exact ⟨b, off, h1, plain_cells (Keep.refl C) hp h2⟩
theorem low_lrel {m n : Nat} : ∀ {cs : List AV} {vs : List Value}, LRel C h cs vs → LRel C (lowHeap m n h 0 h) (cs.map (lowRef m n h)) vs
  | [], vs, hr => by simpa only [List.map_nil, LRel] using hr
  | c :: cs, vs, hr => by
    simp only [List.map_cons, LRel] at hr ⊢
    obtain ⟨v, vs', rfl, g1, g2⟩ := hr
    exact ⟨v, vs', rfl, low_vrel g1, low_lrel g2⟩
theorem low_tmps {m n : Nat} {lv : List Nat} : ∀ (ts : List AV) (i j : Nat) {x : Value}, VRel C h (nth .u ts j) x → VRel C (lowHeap m n h 0 h) (nth .u (lowTmps m n h lv i ts) j) x
  | [], i, j, x, hv => by simp only [lowTmps, nth, VRel]
  | t :: ts, i, 0, x, hv => by
    simp only [lowTmps, nth] at hv ⊢
    cases mem i lv
    · simp only [cond_false, VRel]
    · exact low_vrel hv
  | t :: ts, i, j + 1, x, hv => by
    simp only [lowTmps, nth] at hv ⊢
    exact low_tmps ts (i + 1) j hv
theorem lowTmps_length {m n : Nat} {lv : List Nat} : ∀ (ts : List AV) (i : Nat), (lowTmps m n h lv i ts).length = ts.length
  | [], i => rfl
  | t :: ts, i => by simp [lowTmps, lowTmps_length ts (i + 1)]
theorem live_low {m n k : Nat} (x : AObj) : live (lowObj m n h k x) = live x := by
  cases x <;> simp only [lowObj, live]
  cases Nat.blt k m <;> rfl
theorem low_hrel {m n : Nat} (H : HRel C h) : HRel C (lowHeap m n h 0 h) := by
  have hlen : (lowHeap m n h 0 h).length = min h.length n := by rw [lowHeap_length]; omega
  have hnth : ∀ o, o < n → nth .dead (lowHeap m n h 0 h) o = lowObj m n h o (nth .dead h o) := fun o ho => by rw [nth_lowHeap, Nat.zero_add, if_pos ho]
  refine ⟨fun o ho => ?_, fun o o' ho ho' hl hl' he => ?_, H.fix⟩
  · rw [hlen] at ho
    rw [hnth o (by omega)]
    have hob := H.obj o (by omega)
    cases hx : nth .dead h o with
    | dead => trivial
    | box e row =>
      rw [hx] at hob
      obtain ⟨cs, g1, g2, g3, g4, g5⟩ := hob
      exact ⟨cs, g1, by simpa using g2, g3, low_lrel g4, trivial⟩
    | arr e rows c v fz =>
      rw [hx] at hob
      have key : ∀ v', HObj C (lowHeap m n h 0 h) o (.arr e rows c v' fz) := fun v' => by
        obtain ⟨b1, b2, b3⟩ := hob
        refine ⟨b1, b2, fun hnl => ?_⟩
        obtain ⟨cs, g1, g2, g3, g4, g5⟩ := b3 hnl
        exact ⟨cs, g1, g2, g3, g4, fun i hi => plain_rowAt (Keep.refl C) (g5 i hi)⟩
      simp only [lowObj]
      cases Nat.blt o m
      · exact key 0
      · exact key v
    | mp tt es =>
      rw [hx] at hob
      obtain ⟨kt, vt, xs, ck, h1, h2, h3⟩ := hmap_obj hob
      simp only [lowObj, HObj, h1]
      exact ⟨xs, ck, h2, plain_ents (Keep.refl C) h3⟩
  · rw [hlen] at ho ho'
    rw [hnth o (by omega), live_low] at hl
    rw [hnth o' (by omega), live_low] at hl'
    exact H.inj o o' (by omega) (by omega) hl hl' he
theorem low_step {n : Nat} (h1 : h0.length ≤ n) (R : Step nt C0 h0 C h) : Step nt C0 h0 C (lowHeap h0.length n h 0 h) := by
  have hlen : (lowHeap h0.length n h 0 h).length = min h.length n := by rw [lowHeap_length]; omega
  have hnth : ∀ o, o < n → nth .dead (lowHeap h0.length n h 0 h) o = lowObj h0.length n h o (nth .dead h o) := fun o ho => by rw [nth_lowHeap, Nat.zero_add, if_pos ho]
  refine ⟨⟨R.ext.L, R.ext.fixed, by have := R.ext.len; omega, fun o ho => ?_⟩, R.os, R.tape, R.output, R.size, R.kept, fun o ho hl => ?_, R.news⟩
  · have := R.ext.obj o ho
    rw [hnth o (by omega)]
    have hb : Nat.blt o h0.length = true := nblt.2 ho
    revert this
    cases nth .dead h0 o <;> cases nth .dead h o <;> simp only [lowObj, hb, cond_true] <;> exact id
  · rw [hlen] at ho
    rw [hnth o (by omega), live_low] at hl
    exact R.newb o (by omega) hl
theorem cleanLow_ok {n : Nat} {lv : List Nat} {s : St} (h1 : h0.length ≤ n) (R : SRel nt C0 h0 C s a) : SRel nt C0 h0 C (cleanLow h0.length n lv s) a :=
  ⟨low_step h1 R.step, low_hrel R.h, ⟨by simp only [cleanLow, lowTmps_length]; exact R.t.1, fun i => low_tmps s.t 0 i (R.t.2 i)⟩, R.d⟩
end
end Go.Ev
/- The engine, part 22: the places where a loop keeps its slices. -/
namespace Go.Ev
open Go

section
variable {P : Program} {C0 C C' : Cx} {h0 h h' h2 : List AObj} {t : List AV} {a : Act} {o : Oper} {nt : Nat}

theorem lrel_upd {row : List AV} {us : List Value} {v : AV} : ∀ {k : Nat}, LRel C h row us → (∀ x, us[k]? = some x → VRel C h v x) → LRel C h (upd row k v) us := by
  induction row generalizing us with
  | nil => intro k hr _; exact hr
  | cons c cs ih =>
    intro k hr hx
    simp only [LRel] at hr
    obtain ⟨u, us', rfl, g1, g2⟩ := hr
    cases k with
    | zero => simp only [upd, LRel]; exact ⟨u, us', rfl, hx u rfl, g2⟩
    | succ k => simp only [upd, LRel]; exact ⟨u, us', rfl, g1, ih g2 fun x hq => hx x (by simpa using hq)⟩
/-- A box's cell is told in other words. -/
theorem relabel {ob e k : Nat} {row : Row} {v : AV} (H : HRel C h) (hk : ob < h.length) (hn : nth .dead h ob = .box e row) (hx : ∀ cs : Array Value, C.w.heap[C.mu ob]? = some (.cells cs e (0, 0)) → ∀ x, cs[k]? = some x → VRel C h v x) :
    Step nt C h C (upd h ob (.box e (upd row k v))) ∧ HRel C (upd h ob (.box e (upd row k v))) := by
  have hob := H.obj ob hk
  rw [hn] at hob
  obtain ⟨cs, g1, g2, g3, g4, g5⟩ := hob
  have hnn : nth .dead (upd h ob (.box e (upd row k v))) ob = .box e (upd row k v) := by rw [nth_upd, if_pos ⟨rfl, hk⟩]
  refine step_one H ob rfl (by rw [upd_length]; exact Nat.le_refl _) (fun oo h1 h2 => by rw [upd_length] at h2; omega) (fun oo hq => by rw [nth_upd, if_neg (by omega)]) (fun oo hq => rfl) (fun oo hq => rfl) (fun t b y hq => ⟨hq, rfl⟩) rfl rfl rfl (Nat.le_refl _)
    (fun b hb hq => rfl) (fun _ => by rw [hnn, hn]; rfl) (fun _ _ => .inl ⟨hk, by rw [hn]; rfl, rfl⟩) (fun t b y hq => .inl hq) H.fix (fun E _ => by
      rw [hnn]
      exact ⟨cs, g1, by rw [upd_length]; exact g2, g3, lrel_ext E (lrel_upd g4 fun x hq => hx cs g1 x (by simpa using hq)), trivial⟩)
theorem setPl_ok {s : St} {p : Pl} {v : AV} (R : SRel nt C0 h0 C s a) (s1 : Step nt C s.h C' h2) (H2 : HRel C' h2) (hw : C'.w = C.w) (hbox : ∀ ob e row, nth .dead s.h ob = .box e row → nth .dead h2 ob = .box e row)
    (hv : ∀ x, VRel C s.h (getPl s p) x → VRel C' h2 v x) (hne : getPl s p ≠ .u) : ∃ h3, setPl ⟨s.t, h2⟩ p v = ⟨(setPl ⟨s.t, h2⟩ p v).t, h3⟩ ∧ SRel nt C0 h0 C' (setPl ⟨s.t, h2⟩ p v) a := by
  have T2 : TRel C' h2 s.t a := ⟨R.t.1, fun i => vrel_ext s1.ext (R.t.2 i)⟩
  refine ⟨_, rfl, ?_⟩
  unfold setPl
  cases hp : p.cell with
  | none =>
    have hg : getPl s p = nth .u s.t p.slot := by unfold getPl; rw [hp]
    rw [hg] at hv hne
    refine ⟨R.step.trans s1, H2, ⟨by rw [upd_length]; exact R.t.1, fun i => ?_⟩, R.d⟩
    simp only
    rw [nth_upd]
    split
    · rename_i hc
      obtain ⟨rfl, _⟩ := hc
      exact hv _ (R.t.2 p.slot)
    · exact T2.2 i
  | some j =>
    simp only
    have same : SRel nt C0 h0 C' ⟨s.t, h2⟩ a := ⟨R.step.trans s1, H2, T2, R.d⟩
    split
    · rename_i ob i hs
      have hs : nth .u s.t p.slot = .ptr ob 0 0 i := hs
      split
      · rename_i e row hb
        cases hso : nth .dead s.h ob with
        | dead => exact absurd (by unfold getPl; rw [hp]; simp only [hs, hso]) hne
        | arr _ _ _ _ _ => exact absurd (by unfold getPl; rw [hp]; simp only [hs, hso]) hne
        | mp _ _ => exact absurd (by unfold getPl; rw [hp]; simp only [hs, hso]) hne
        | box e' row' =>
          have hg : getPl s p = nth .u row' (i + j) := by unfold getPl; rw [hp]; simp only [hs, hso]
          have := hbox ob e' row' hso
          have hb : nth .dead h2 ob = .box e row := hb
          rw [hb] at this
          simp only [AObj.box.injEq] at this
          obtain ⟨rfl, rfl⟩ := this
          have hlt : ob < s.h.length := nth_ne hso (by simp)
          have hlt2 : ob < h2.length := nth_ne hb (by simp)
          have hob := R.h.obj ob hlt
          rw [hso] at hob
          obtain ⟨cs, g1, g2, g3, g4, g5⟩ := hob
          have hmu : C'.mu ob = C.mu ob := by
            have := s1.ext.obj ob hlt
            rw [hso, hb] at this
            exact this
          obtain ⟨s3, H3⟩ := relabel (nt := nt) (k := i + j) (v := v) H2 hlt2 hb (fun cs' hcs' x hx => by
            rw [hw, hmu, g1] at hcs'
            simp only [Option.some.injEq, Obj.cells.injEq] at hcs'
            obtain ⟨rfl, _⟩ := hcs'
            apply hv
            rw [hg]
            have hil : i + j < row.length := by rw [← g2]; exact (Array.getElem?_eq_some_iff.1 hx).1
            obtain ⟨y, q1, q2⟩ := lrel_nth g4 (i + j) hil
            rw [Array.getElem?_toList, hx] at q1
            simp only [Option.some.injEq] at q1
            subst q1; exact q2)
          exact ⟨(R.step.trans s1).trans s3, H3, ⟨T2.1, fun i => vrel_ext s3.ext (T2.2 i)⟩, R.d⟩
      · exact same
    · exact same
theorem ownPl_ok {s : St} {p : Pl} (R : SRel nt C0 h0 C s a) : ∃ C', C'.w = C.w ∧ SRel nt C0 h0 C' (ownPl p s) a := by
  unfold ownPl
  cases hn : isNilPs (getPl s p)
  · exact ⟨C, rfl, R⟩
  · simp only [cond_true]
    obtain ⟨s1, H1, v1⟩ := step_nil (nt := nt) (e := p.e) R.h true 0 (Nat.le_refl _)
    obtain ⟨h3, _, R'⟩ := setPl_ok (C' := C.lay s.h.length C.w 0 0) (p := p) (v := .own s.h.length 0) R s1 H1 rfl (fun ob e row hq => by
      have := nth_ne hq (by simp)
      rw [nth_append, if_pos this]; exact hq) (fun x hx => by rw [isNilPs_value hn hx]; exact v1) (by intro hq; rw [hq] at hn; simp [isNilPs] at hn)
    exact ⟨C.lay s.h.length C.w 0 0, rfl, R'⟩
theorem ownPls_ok : ∀ (ps : List Pl) {C : Cx} {s : St}, SRel nt C0 h0 C s a → ∃ C', C'.w = C.w ∧ SRel nt C0 h0 C' (ownPls ps s) a
  | [], C, s, R => ⟨C, rfl, R⟩
  | p :: ps, C, s, R => by
    obtain ⟨C1, w1, R1⟩ := ownPl_ok (p := p) R
    obtain ⟨C2, w2, R2⟩ := ownPls_ok ps R1
    exact ⟨C2, w2.trans w1, R2⟩
/-- an object takes another's block -/
theorem step_back (H : HRel C h) {o d e e' : Nat} {rows rows' : List Row} {c c' : Cp} {v v' fz fz' : Nat} (hdo : d < o) (ho : nth .dead h o = .arr e rows c v fz) (hd : nth .dead h d = .arr e' rows' c' v' fz') :
    ∃ C', C'.w = C.w ∧ Step nt C h C' (upd (upd h o .dead) d (.arr e rows c (v' + 1) fz)) ∧ HRel C' (upd (upd h o .dead) d (.arr e rows c (v' + 1) fz)) ∧ ∀ x, VRel C h (.own o v) x → VRel C' (upd (upd h o .dead) d (.arr e rows c (v' + 1) fz)) (.own d (v' + 1)) x := by
  have hol : o < h.length := nth_ne ho (by simp)
  have hdl : d < h.length := nth_ne hd (by simp)
  have hnth : ∀ k, nth .dead (upd (upd h o .dead) d (.arr e rows c (v' + 1) fz)) k = if k = d then .arr e rows c (v' + 1) fz else if k = o then .dead else nth .dead h k := fun k => by
    rw [nth_upd, nth_upd, upd_length]
    by_cases h1 : k = d
    · rw [if_pos ⟨h1, hdl⟩, if_pos h1]
    · rw [if_neg (by omega), if_neg h1]
      by_cases h2 : k = o
      · rw [if_pos ⟨h2, hol⟩, if_pos h2]
      · rw [if_neg (by omega), if_neg h2]
  have hlen : (upd (upd h o .dead) d (.arr e rows c (v' + 1) fz)).length = h.length := by rw [upd_length, upd_length]
  generalize upd (upd h o .dead) d (.arr e rows c (v' + 1) fz) = h2 at hnth hlen
  let C' : Cx := { C with mu := fun k => if k = d then C.mu o else C.mu k, kap := fun k => if k = d then C.kap o else C.kap k }
  have E : Ext C h C' h2 := ext_of rfl (fun t b x hq => ⟨hq, rfl⟩) (by omega) fun k hk => by
    rw [hnth k]
    split
    · rename_i hkd; subst hkd; rw [hd]; simp only [objOk]; exact ⟨Nat.le_succ _, fun hq => absurd hq (Nat.ne_of_lt (Nat.lt_succ_self _))⟩
    · rename_i hkd
      split
      · cases nth .dead h k <;> trivial
      · exact objOk_self _ (by simp [C', hkd]) (by simp [C', hkd])
  have hliv : ∀ k, live (nth .dead h2 k) = true → (k = d ∧ c.nl = false) ∨ (k ≠ d ∧ k ≠ o ∧ live (nth .dead h k) = true) := fun k hl => by
    rw [hnth k] at hl
    by_cases h1 : k = d
    · rw [if_pos h1] at hl; exact .inl ⟨h1, by simpa [live] using hl⟩
    · rw [if_neg h1] at hl
      by_cases h2 : k = o
      · rw [if_pos h2] at hl; simp [live] at hl
      · rw [if_neg h2] at hl; exact .inr ⟨h1, h2, hl⟩
  have hlo : c.nl = false → live (nth .dead h o) = true := fun hq => by rw [ho]; simp [live, hq]
  refine ⟨C', rfl, ⟨E, rfl, rfl, rfl, Nat.le_refl _, fun b hb hq => rfl, fun k hk hl => ?_, fun t b x hq => .inl hq⟩, ⟨fun k hk => ?_, fun k k' hk hk' hl hl' he => ?_, H.fix⟩, fun x hx => ?_⟩
  · rcases hliv k hl with ⟨rfl, hq⟩ | ⟨h1, h2', hq⟩
    · exact .inl ⟨o, hol, hlo hq, by simp [C']⟩
    · exact .inl ⟨k, by omega, hq, by simp [C', h1]⟩
  · rw [hnth k]
    by_cases h1 : k = d
    · subst h1
      rw [if_pos rfl]
      have hob := H.obj o hol
      rw [ho] at hob
      obtain ⟨b1, b2, b3⟩ := hob
      refine ⟨b1, fun hq => ⟨(b2 hq).1, by simp [C', (b2 hq).2]⟩, fun hq => ?_⟩
      obtain ⟨cs, g1, g2, g3, g4, g5⟩ := b3 hq
      exact ⟨cs, by simpa [C'] using g1, by simp only [C', if_true]; exact g2, by simpa [C'] using g3, fun t x hx' hS => g4 t x hx' (by simpa [C'] using hS), fun i hi => rowAt_ext E (g5 i hi)⟩
    · rw [if_neg h1]
      by_cases h2' : k = o
      · rw [if_pos h2']; trivial
      · rw [if_neg h2']
        exact hobj_ext E (H.obj k (by omega)) (by simp [C', h1]) (by simp [C', h1]) (fun _ => rfl) (fun _ t y hq => hq)
  · rcases hliv k hl with ⟨rfl, hq⟩ | ⟨h1, h2', hq⟩ <;> rcases hliv k' hl' with ⟨rfl, hq'⟩ | ⟨h1', h2'', hq'⟩
    · rfl
    · simp only [C', if_true, if_neg h1'] at he
      exact absurd (H.inj o k' hol (by omega) (hlo hq) hq' he).symm h2''
    · simp only [C', if_true, if_neg h1] at he
      exact absurd (H.inj k o (by omega) hol hq (hlo hq') he) h2'
    · simp only [C', if_neg h1, if_neg h1'] at he
      exact H.inj k k' (by omega) (by omega) hq hq' he
  · have h1 := hx
    simp only [VRel, RefOk] at h1
    obtain ⟨_, q⟩ := own_value ho hx
    obtain ⟨ad, q1, q2, q3, q4⟩ := q
    refine own_any (w' := 0) (by omega) (by rw [hnth d, if_pos rfl]) h1.1 ⟨ad, by simpa [C'] using q1, q2, by simpa [C'] using q3, by simpa [C'] using q4⟩
theorem backPl_ok {s : St} {p : Pl} {d : Nat} (R : SRel nt C0 h0 C s a) : ∃ C', C'.w = C.w ∧ SRel nt C0 h0 C' (backPl p d s) a := by
  unfold backPl
  split
  · rename_i o ver hg
    split
    · rename_i e rows c v fz e' rows' c' v' fz' ho hd
      simp only [cond_eq_ite, Bool.and_eq_true, nbeq, nblt]
      split
      · rename_i hc
        obtain ⟨⟨rfl, hdo⟩, rfl⟩ := hc
        obtain ⟨C', w', s1, H1, hv⟩ := step_back (nt := nt) R.h hdo ho hd
        obtain ⟨h3, _, R'⟩ := setPl_ok (p := p) (v := .own d (v' + 1)) R s1 H1 w' (fun ob e row hq => by
          rw [nth_upd, nth_upd]
          rw [if_neg, if_neg]
          · exact hq
          · rintro ⟨rfl, _⟩; rw [ho] at hq; cases hq
          · rintro ⟨rfl, _⟩; rw [hd] at hq; cases hq) (fun x hx => hv x (by rw [hg] at hx; exact hx)) (by rw [hg]; simp)
        exact ⟨C', w', R'⟩
      · exact ⟨C, rfl, R⟩
    · exact ⟨C, rfl, R⟩
  · exact ⟨C, rfl, R⟩
theorem backPls_ok : ∀ (ps : List (Pl × Option Nat)) {C : Cx} {s : St}, SRel nt C0 h0 C s a → ∃ C', C'.w = C.w ∧ SRel nt C0 h0 C' (backPls ps s) a
  | [], C, s, R => ⟨C, rfl, R⟩
  | (p, some d) :: ps, C, s, R => by
    obtain ⟨C1, w1, R1⟩ := backPl_ok (p := p) (d := d) R
    obtain ⟨C2, w2, R2⟩ := backPls_ok ps R1
    exact ⟨C2, w2.trans w1, R2⟩
  | (p, none) :: ps, C, s, R => backPls_ok ps R
theorem clean_ok {n : Nat} {X : LoopX} {ids : List (Pl × Option Nat)} {s : St} (h1 : h0.length ≤ n) (R : SRel nt C0 h0 C s a) : ∃ C', C'.w = C.w ∧ SRel nt C0 h0 C' (clean h0.length n X ids s) a := by
  obtain ⟨C1, w1, R1⟩ := backPls_ok ids R
  exact ⟨C1, w1, cleanLow_ok h1 R1⟩
end
end Go.Ev
/- The engine, part 23: statements. -/
namespace Go.Ev
open Go

section
variable {P : Program} {C0 C C' : Cx} {h0 h h' : List AObj} {t : List AV} {a : Act} {o : Oper} {nt : Nat} {ρ : Type} {r : ρ} {E : Env}

/-- What is asked of regions whose order is drawn. -/
def DrawOk (ρ : Type) (P : Program) (E : Env) : Prop := ∀ (C0 : Cx) (h0 : List AObj) (r : ρ) (id : Nat) (ops : Array Oper) (Q : Exit → Act → World → Prop) (k : St → Option ρ), LOk P C0.L → C0.L = E.L → KOk E.nt C0 h0 r k (Q .normal) →
  KOk E.nt C0 h0 r (evDraw E ops.toList k) (fun a w => (Code.region id ops true).wp P Q a w)

theorem loop_ok {c : Code} {Q : Exit → Act → World → Prop} {step : (St → Option ρ) → St → Option ρ} {cl : St → St} (hcl : ∀ C s a, SRel nt C0 h0 C s a → ∃ C', C'.w = C.w ∧ SRel nt C0 h0 C' (cl s) a)
    (hstep : ∀ (Q' : Exit → Act → World → Prop) (k : St → Option ρ), (∀ e, e ≠ .normal → Q' e = Q e) → KOk nt C0 h0 r k (Q' .normal) → KOk nt C0 h0 r (step k) (fun a w => c.wp P Q' a w)) :
    ∀ n, KOk nt C0 h0 r (loopN step cl n) (Code.rounds P c Q n)
  | 0 => fun C s a R hv => by simp [loopN] at hv
  | n + 1 => fun C s a R hv => by
    simp only [loopN] at hv
    have ih := loop_ok hcl hstep n
    refine hstep (Exit.then (Code.rounds P c Q n) Q) (fun s => loopN step cl n (cl s)) (fun e he => by cases e <;> first | rfl | exact absurd rfl he) ?_ C s a R hv
    intro C1 s1 a1 R1 hv1
    obtain ⟨C2, w2, R2⟩ := hcl C1 s1 a1 R1
    have := ih C2 (cl s1) a1 R2 hv1
    rw [w2] at this
    exact this
theorem dead_get {lv : List Nat} : ∀ (t : List AV) (i j : Nat), nth .u (deadT lv i t) j = nth .u t j ∨ nth .u (deadT lv i t) j = .u
  | [], i, j => .inl rfl
  | v :: vs, i, 0 => by
    simp only [deadT, nth]
    cases mem i lv
    · exact .inr rfl
    · exact .inl rfl
  | v :: vs, i, j + 1 => by simp only [deadT, nth]; exact dead_get vs (i + 1) j
theorem dead_len {lv : List Nat} : ∀ (t : List AV) (i : Nat), (deadT lv i t).length = t.length
  | [], i => rfl
  | v :: vs, i => by simp only [deadT, List.length_cons, dead_len vs]
theorem joinK_ok {lv : List Nat} {k : St → Option ρ} {Φ : Act → World → Prop} (hk : KOk nt C0 h0 r k Φ) : KOk nt C0 h0 r (joinK lv k) Φ := fun C s a R hv =>
  hk C ⟨deadT lv 0 s.t, s.h⟩ a ⟨R.step, R.h, ⟨by simp only [dead_len]; exact R.t.1, fun i => by
    rcases dead_get (lv := lv) s.t 0 i with h | h
    · simp only [h]; exact R.t.2 i
    · simp only [h, VRel]⟩, R.d⟩ hv
theorem joinO_ok {lv : Option (List Nat)} {k : St → Option ρ} {Φ : Act → World → Prop} (hk : KOk nt C0 h0 r k Φ) : KOk nt C0 h0 r (joinO lv k) Φ := by
  cases lv
  · exact hk
  · exact joinK_ok hk
theorem evCode_ok (LK : LOk P C0.L) (hE : C0.L = E.L) (HC : CallAOk P E) (HD : DrawOk ρ P E) {lv : List (Nat × LoopX)} (n : Nat) : ∀ (c : Code) (Q : Exit → Act → World → Prop) (kN : St → Option ρ) (kX : Nat → St → Option ρ) (kR : St → Option ρ),
    KOk E.nt C0 h0 r kN (Q .normal) → (∀ j, KOk E.nt C0 h0 r (kX j) (Q (.exit j))) → KOk E.nt C0 h0 r kR (Q .ret) → KOk E.nt C0 h0 r (evCode E ⟨h0.length, lv⟩ n c kN kX kR) (fun a w => c.wp P Q a w)
  | .skip, Q, kN, kX, kR, hN, hX, hR => fun C s a R hv => by
    simp only [evCode] at hv
    exact wp_skip (hN C s a R hv)
  | .region id ops false, Q, kN, kX, kR, hN, hX, hR => fun C s a R hv => by
    simp only [evCode] at hv
    exact region_ok LK hE HC hN C s a R hv
  | .region id ops true, Q, kN, kX, kR, hN, hX, hR => fun C s a R hv => by
    simp only [evCode] at hv
    exact HD C0 h0 r id ops Q kN LK hE hN C s a R hv
  | .seq x y, Q, kN, kX, kR, hN, hX, hR => fun C s a R hv => by
    simp only [evCode] at hv
    exact wp_seq (evCode_ok LK hE HC HD n x (Exit.then (y.wp P Q) Q) _ kX kR (joinO_ok (evCode_ok LK hE HC HD n y Q kN kX kR hN hX hR)) hX hR C s a R hv)
  | .cond c x y, Q, kN, kX, kR, hN, hX, hR => fun C s a R hv => by
    simp only [evCode] at hv
    split at hv
    · rename_i b hb
      have he := vrel_opd R.t c
      rw [hb] at he
      simp only [VRel] at he
      refine wp_cond he ?_
      cases b
      · exact evCode_ok LK hE HC HD n y Q kN kX kR hN hX hR C s a R hv
      · exact evCode_ok LK hE HC HD n x Q kN kX kR hN hX hR C s a R hv
    · cases hv
  | .block id c, Q, kN, kX, kR, hN, hX, hR => fun C s a R hv => by
    simp only [evCode] at hv
    refine wp_block (evCode_ok LK hE HC HD n c (Exit.inBlock id Q) kN _ kR hN (fun j => ?_) hR C s a R hv)
    intro C s a R hv
    simp only [cond_eq_ite, nbeq] at hv
    simp only [Exit.inBlock]
    split at hv
    · rename_i hj; rw [if_pos hj]; exact hN C s a R hv
    · rename_i hj; rw [if_neg hj]; exact hX j C s a R hv
  | .loop c, Q, kN, kX, kR, hN, hX, hR => fun C s a R hv => by
    simp only [evCode] at hv
    split at hv
    case h_2 => cases hv
    rename_i rr hr
    obtain ⟨C0', w0, R0⟩ := ownPls_ok (look lv rr).pl R
    obtain ⟨C1, w1, R1⟩ := clean_ok (n := (ownPls (look lv rr).pl s).h.length) (X := look lv rr) (ids := (look lv rr).pl.map fun p => (p, idPl (ownPls (look lv rr).pl s) p)) R0.step.ext.len R0
    rw [← w0, ← w1]
    refine wp_loop_rounds n (loop_ok (cl := clean h0.length (ownPls (look lv rr).pl s).h.length (look lv rr) _) (fun C' s' a' R' => clean_ok R0.step.ext.len R') (fun Q' k hq hk => ?_) n C1 _ a R1 hv)
    have hX' : ∀ j, KOk E.nt C0 h0 r (kX j) (Q' (.exit j)) := fun j => by rw [hq _ (by simp)]; exact hX j
    have hR' : KOk E.nt C0 h0 r kR (Q' .ret) := by rw [hq _ (by simp)]; exact hR
    exact evCode_ok LK hE HC HD n c Q' k _ _ hk (fun j => joinK_ok (hX' j)) (joinK_ok hR')
  | .exit id, Q, kN, kX, kR, hN, hX, hR => fun C s a R hv => by
    simp only [evCode] at hv
    exact wp_exit (hX id C s a R hv)
  | .ret, Q, kN, kX, kR, hN, hX, hR => fun C s a R hv => by
    simp only [evCode] at hv
    exact wp_ret (hR C s a R hv)
  | .rangeFunc _ _ _ _, Q, kN, kX, kR, hN, hX, hR => fun C s a R hv => by simp [evCode] at hv
  | .scope _, Q, kN, kX, kR, hN, hX, hR => fun C s a R hv => by simp [evCode] at hv
  | .label _, Q, kN, kX, kR, hN, hX, hR => fun C s a R hv => by simp [evCode] at hv
  | .goto _, Q, kN, kX, kR, hN, hX, hR => fun C s a R hv => by simp [evCode] at hv
  | .refuse _, Q, kN, kX, kR, hN, hX, hR => fun C s a R hv => by simp [evCode] at hv
end
end Go.Ev
/- The engine, part 24: what a function hands back. -/
namespace Go.Ev
open Go

/-- Results as their signature says; the objects that came lie from m on. -/
def ResOk (L : List Ly) (h : List AObj) : Nat → List RK → List AV → Prop
  | m, [], rs => rs = [] ∧ m = h.length
  | m, .v t :: ks, rs => ∃ r rs', rs = r :: rs' ∧ (ly L t).k.known = true ∧ okRow (ly L t).cells r.toCells = true ∧ shaped (ly L t).k.agg r = true ∧ ResOk L h m ks rs'
  | m, .own t :: ks, rs => ∃ rs' e rows c fz, rs = .own m 0 :: rs' ∧ (ly L t).k = .slice e ∧ nth .dead h m = .arr e rows c 0 fz ∧ ResOk L h (m + 1) ks rs'
  | m, .mp t :: ks, rs => ∃ rs' es, rs = .map m :: rs' ∧ nth .dead h m = .mp t es ∧ ResOk L h (m + 1) ks rs'
def oneV : List Value → Value
  | [v] => v
  | vs => .tuple vs.toArray
/-- Where the objects that come are taken from. -/
def Pick (h : List AObj) (m : Nat) : List Nat → List Nat → List AObj → Prop
  | _, [], new => new = []
  | used, u :: us, new => ∃ x xs, new = x :: xs ∧ ((u = h.length ∧ ∃ e, x = .arr e [] ⟨true, true⟩ 0 0) ∨ (m ≤ u ∧ u < h.length ∧ mem u used = false ∧ x = reset0 (nth .dead h u) ∧ ∀ e row, x ≠ .box e row)) ∧ Pick h m (u :: used) us xs

section
variable {P : Program} {C0 C C' : Cx} {h0 h h' : List AObj} {t : List AV} {a : Act} {o : Oper} {nt : Nat} {E : Env}

theorem mem_iff {x : Nat} : ∀ {l : List Nat}, mem x l = true ↔ x ∈ l
  | [] => by simp [mem]
  | y :: l => by
    simp only [mem, Bool.or_eq_true, nbeq, List.mem_cons, mem_iff (l := l)]
theorem frzRes_ok : ∀ {ks : List RK} {vs vs' : List AV} {C : Cx} {h h' : List AObj} {xs : List Value}, HRel C h → LRel C h vs xs → frzRes E h ks vs = some (vs', h') → ∃ C', C'.w = C.w ∧ Step E.nt C h C' h' ∧ HRel C' h' ∧ LRel C' h' vs' xs
  | [], [], vs', C, h, h', xs, H, hr, hf => by
    simp only [frzRes, Option.some.injEq, Prod.mk.injEq] at hf
    obtain ⟨rfl, rfl⟩ := hf
    exact ⟨C, rfl, Step.refl _ C h, H, hr⟩
  | [], _ :: _, _, _, _, _, _, _, _, hf => by simp [frzRes] at hf
  | k :: _, [], _, _, _, _, _, _, _, hf => by cases k <;> simp [frzRes] at hf
  | .v t :: ks, v :: vs, vs', C, h, h', xs, H, hr, hf => by
    simp only [frzRes, Option.bind_eq_some_iff, cond_eq_ite] at hf
    obtain ⟨⟨v1, h1⟩, hz, hf⟩ := hf
    split at hf
    case isFalse => cases hf
    simp only [Option.bind_eq_some_iff, Option.some.injEq, Prod.mk.injEq] at hf
    obtain ⟨⟨q1, q2⟩, hq, rfl, rfl⟩ := hf
    simp only [LRel] at hr
    obtain ⟨x, xs', rfl, r1, r2⟩ := hr
    obtain ⟨C1, w1, s1, H1, v1'⟩ := frz_ok (nt := E.nt) H r1 hz
    obtain ⟨C2, w2, s2, H2, l2⟩ := frzRes_ok H1 (lrel_ext s1.ext r2) hq
    exact ⟨C2, w2.trans w1, s1.trans s2, H2, by simp only [LRel]; exact ⟨x, xs', rfl, vrel_ext s2.ext v1', l2⟩⟩
  | .own t :: ks, v :: vs, vs', C, h, h', xs, H, hr, hf => by
    simp only [frzRes, Option.bind_eq_some_iff, Option.some.injEq, Prod.mk.injEq] at hf
    obtain ⟨⟨q1, q2⟩, hq, rfl, rfl⟩ := hf
    simp only [LRel] at hr
    obtain ⟨x, xs', rfl, r1, r2⟩ := hr
    obtain ⟨C2, w2, s2, H2, l2⟩ := frzRes_ok H r2 hq
    exact ⟨C2, w2, s2, H2, by simp only [LRel]; exact ⟨x, xs', rfl, vrel_ext s2.ext r1, l2⟩⟩
  | .mp t :: ks, v :: vs, vs', C, h, h', xs, H, hr, hf => by
    simp only [frzRes, Option.bind_eq_some_iff, Option.some.injEq, Prod.mk.injEq] at hf
    obtain ⟨⟨q1, q2⟩, hq, rfl, rfl⟩ := hf
    simp only [LRel] at hr
    obtain ⟨x, xs', rfl, r1, r2⟩ := hr
    obtain ⟨C2, w2, s2, H2, l2⟩ := frzRes_ok H r2 hq
    exact ⟨C2, w2, s2, H2, by simp only [LRel]; exact ⟨x, xs', rfl, vrel_ext s2.ext r1, l2⟩⟩
theorem frzRes_shape : ∀ {ks : List RK} {vs vs' : List AV} {h h' : List AObj}, frzRes E h ks vs = some (vs', h') → ∀ j t, ks[j]? = some (.v t) → (ly E.L t).k.known = true ∧ okRow (ly E.L t).cells (nth .u vs' j).toCells = true ∧ shaped (ly E.L t).k.agg (nth .u vs' j) = true
  | [], [], vs', h, h', hf => fun j t hj => by simp at hj
  | [], _ :: _, _, _, _, hf => by simp [frzRes] at hf
  | k :: _, [], _, _, _, hf => by cases k <;> simp [frzRes] at hf
  | .v t0 :: ks, v :: vs, vs', h, h', hf => fun j t hj => by
    simp only [frzRes, Option.bind_eq_some_iff, cond_eq_ite] at hf
    obtain ⟨⟨v1, h1⟩, hz, hf⟩ := hf
    split at hf
    case isFalse => cases hf
    rename_i hc
    simp only [Option.bind_eq_some_iff, Option.some.injEq, Prod.mk.injEq] at hf
    obtain ⟨⟨q1, q2⟩, hq, rfl, rfl⟩ := hf
    cases j with
    | zero =>
      simp only [List.getElem?_cons_zero, Option.some.injEq, RK.v.injEq] at hj
      subst hj
      simp only [nth]
      simpa using hc
    | succ j => simp only [nth]; exact frzRes_shape hq j t (by simpa using hj)
  | .own _ :: ks, v :: vs, vs', h, h', hf => fun j t hj => by
    simp only [frzRes, Option.bind_eq_some_iff, Option.some.injEq, Prod.mk.injEq] at hf
    obtain ⟨⟨q1, q2⟩, hq, rfl, rfl⟩ := hf
    cases j with
    | zero => simp at hj
    | succ j => simp only [nth]; exact frzRes_shape hq j t (by simpa using hj)
  | .mp _ :: ks, v :: vs, vs', h, h', hf => fun j t hj => by
    simp only [frzRes, Option.bind_eq_some_iff, Option.some.injEq, Prod.mk.injEq] at hf
    obtain ⟨⟨q1, q2⟩, hq, rfl, rfl⟩ := hf
    cases j with
    | zero => simp at hj
    | succ j => simp only [nth]; exact frzRes_shape hq j t (by simpa using hj)
/-- what is picked -/
theorem pickRes_ok {L : List Ly} {m : Nat} : ∀ {ks : List RK} {used : List Nat} {vs rs : List AV} {new : List AObj} {xs : List Value}, pickRes L h m used ks vs = some (rs, new) → LRel C h vs xs →
    (∀ j t, ks[j]? = some (.v t) → (ly L t).k.known = true ∧ okRow (ly L t).cells (nth .u vs j).toCells = true ∧ shaped (ly L t).k.agg (nth .u vs j) = true) →
    ∃ us, us.length = new.length ∧ Pick h m used us new ∧
      ∀ (Cn : Cx) (hn : List AObj), Keep C Cn → (∀ j, j < new.length → nth .dead hn (m + used.length + j) = nth .dead new j ∧ m + used.length + j < hn.length) → (∀ j, j < us.length → nth 0 us j < h.length → Cn.mu (m + used.length + j) = C.mu (nth 0 us j) ∧ Cn.kap (m + used.length + j) = C.kap (nth 0 us j)) →
        (∀ j, j < us.length → nth 0 us j = h.length → Cn.kap (m + used.length + j) = 0) → hn.length = m + used.length + new.length → LRel Cn hn rs xs ∧ ResOk L hn (m + used.length) ks rs
  | [], used, [], rs, new, xs, hp, hr, hs => by
    simp only [pickRes, Option.some.injEq, Prod.mk.injEq] at hp
    obtain ⟨rfl, rfl⟩ := hp
    exact ⟨[], rfl, rfl, fun _ _ _ _ _ _ hl => ⟨by simpa only [LRel] using hr, rfl, by simpa using hl.symm⟩⟩
  | [], _, _ :: _, _, _, _, hp, _, _ => by simp [pickRes] at hp
  | k :: _, _, [], _, _, _, hp, _, _ => by cases k <;> simp [pickRes] at hp
  | .v t :: ks, used, v :: vs, rs, new, xs, hp, hr, hs => by
    simp only [pickRes, Option.bind_eq_some_iff, Option.some.injEq, Prod.mk.injEq] at hp
    obtain ⟨⟨q1, q2⟩, hq, rfl, rfl⟩ := hp
    simp only [LRel] at hr
    obtain ⟨x, xs', rfl, r1, r2⟩ := hr
    obtain ⟨us, u1, u2, u3⟩ := pickRes_ok hq r2 (fun j t hj => by have := hs (j + 1) t (by simpa using hj); simpa only [nth] using this)
    have h0 := hs 0 t rfl
    simp only [nth] at h0
    refine ⟨us, u1, u2, fun Cn hn hK g1 g2 g3 g4 => ?_⟩
    obtain ⟨l1, l2⟩ := u3 Cn hn hK g1 g2 g3 g4
    exact ⟨by simp only [LRel]; exact ⟨x, xs', rfl, flat_vrel hK (okRow_flat h0.2.1 (shaped_iff h0.2.2)) r1, l1⟩, v, q1, rfl, h0.1, h0.2.1, h0.2.2, l2⟩
  | .own t :: ks, used, v :: vs, rs, new, xs, hp, hr, hs => by
    simp only [LRel] at hr
    obtain ⟨x, xs', rfl, r1, r2⟩ := hr
    have hs' : ∀ j t, ks[j]? = some (.v t) → (ly L t).k.known = true ∧ okRow (ly L t).cells (nth .u vs j).toCells = true ∧ shaped (ly L t).k.agg (nth .u vs j) = true := fun j t hj => by have := hs (j + 1) t (by simpa using hj); simpa only [nth] using this
    have shift : ∀ {Cn : Cx} {hn : List AObj} {u : Nat} {us : List Nat} {q2 : List AObj} {x0 : AObj}, (∀ j, j < (x0 :: q2).length → nth .dead hn (m + used.length + j) = nth .dead (x0 :: q2) j ∧ m + used.length + j < hn.length) → (∀ j, j < (u :: us).length → nth 0 (u :: us) j < h.length → Cn.mu (m + used.length + j) = C.mu (nth 0 (u :: us) j) ∧ Cn.kap (m + used.length + j) = C.kap (nth 0 (u :: us) j)) →
        (∀ j, j < (u :: us).length → nth 0 (u :: us) j = h.length → Cn.kap (m + used.length + j) = 0) → hn.length = m + used.length + (x0 :: q2).length →
        (∀ j, j < q2.length → nth .dead hn (m + (u :: used).length + j) = nth .dead q2 j ∧ m + (u :: used).length + j < hn.length) ∧ (∀ j, j < us.length → nth 0 us j < h.length → Cn.mu (m + (u :: used).length + j) = C.mu (nth 0 us j) ∧ Cn.kap (m + (u :: used).length + j) = C.kap (nth 0 us j)) ∧
        (∀ j, j < us.length → nth 0 us j = h.length → Cn.kap (m + (u :: used).length + j) = 0) ∧ hn.length = m + (u :: used).length + q2.length := by
      intro Cn hn u us q2 x0 g1 g2 g3 g4
      have hidx : ∀ j, m + (u :: used).length + j = m + used.length + (j + 1) := fun j => by simp; omega
      refine ⟨fun j hj => ?_, fun j hj hl => ?_, fun j hj hl => ?_, by simp at g4 ⊢; omega⟩
      · rw [hidx]; exact g1 (j + 1) (by simpa using hj)
      · rw [hidx]; exact g2 (j + 1) (by simpa using hj) hl
      · rw [hidx]; exact g3 (j + 1) (by simpa using hj) hl
    simp only [pickRes] at hp
    split at hp
    case h_2 => cases hp
    rename_i e hk
    split at hp
    · rename_i o ver
      split at hp
      case h_2 => cases hp
      rename_i e' rows c w fz hn'
      simp only [cond_eq_ite, Bool.and_eq_true, nbeq, nble, Bool.not_eq_true'] at hp
      split at hp
      case isFalse => cases hp
      rename_i hc
      obtain ⟨⟨⟨rfl, rfl⟩, hm⟩, hu⟩ := hc
      simp only [Option.bind_eq_some_iff, Option.some.injEq, Prod.mk.injEq] at hp
      obtain ⟨⟨q1, q2⟩, hq, rfl, rfl⟩ := hp
      obtain ⟨us, u1, u2, u3⟩ := pickRes_ok hq r2 hs'
      obtain ⟨hlt, ad, o1, o2, o3, o4⟩ := own_value hn' r1
      have hov := r1
      simp only [VRel, RefOk] at hov
      refine ⟨o :: us, by simp [u1], ⟨_, _, rfl, .inr ⟨hm, hlt, hu, by rw [hn']; rfl, by intro _ _ hq; cases hq⟩, u2⟩, fun Cn hn hK g1 g2 g3 g4 => ?_⟩
      obtain ⟨s1, s2, s3, s4⟩ := shift g1 g2 g3 g4
      obtain ⟨l1, l2⟩ := u3 Cn hn hK s1 s2 s3 s4
      obtain ⟨a1, a2⟩ := g1 0 (by simp)
      simp only [Nat.add_zero, nth] at a1 a2
      obtain ⟨b1, b2⟩ := g2 0 (by simp) (by simpa only [nth] using hlt)
      simp only [Nat.add_zero, nth] at b1 b2
      refine ⟨?_, q1, e, rows, c, fz, rfl, hk, a1, by simpa [Nat.add_assoc] using l2⟩
      simp only [LRel]
      refine ⟨x, xs', rfl, own_any (w' := 0) a2 a1 hov.1 ⟨ad, by rw [b2]; exact o1, o2, by rw [b1]; exact o3, by rw [b2]; exact o4⟩, l1⟩
    · simp only [cond_eq_ite] at hp
      split at hp
      case isFalse => cases hp
      rename_i hnil
      simp only [Option.bind_eq_some_iff, Option.some.injEq, Prod.mk.injEq] at hp
      obtain ⟨⟨q1, q2⟩, hq, rfl, rfl⟩ := hp
      obtain ⟨us, u1, u2, u3⟩ := pickRes_ok hq r2 hs'
      refine ⟨h.length :: us, by simp [u1], ⟨_, _, rfl, .inl ⟨rfl, _, rfl⟩, u2⟩, fun Cn hn hK g1 g2 g3 g4 => ?_⟩
      obtain ⟨s1, s2, s3, s4⟩ := shift g1 g2 g3 g4
      obtain ⟨l1, l2⟩ := u3 Cn hn hK s1 s2 s3 s4
      obtain ⟨a1, a2⟩ := g1 0 (by simp)
      simp only [Nat.add_zero, nth] at a1 a2
      have b2 := g3 0 (by simp) rfl
      simp only [Nat.add_zero] at b2
      refine ⟨?_, q1, e, [], ⟨true, true⟩, 0, rfl, hk, a1, by simpa [Nat.add_assoc] using l2⟩
      simp only [LRel]
      refine ⟨x, xs', rfl, ?_, l1⟩
      rw [isNilPs_value hnil r1]
      refine own_any (w' := 0) a2 a1 ⟨rfl, rfl⟩ ⟨none, by simp [b2], fun _ => rfl, fun hq => by simp at hq, fun _ => by simp [b2]⟩
  | .mp t :: ks, used, v :: vs, rs, new, xs, hp, hr, hs => by
    simp only [LRel] at hr
    obtain ⟨x, xs', rfl, r1, r2⟩ := hr
    have hs' : ∀ j t, ks[j]? = some (.v t) → (ly L t).k.known = true ∧ okRow (ly L t).cells (nth .u vs j).toCells = true ∧ shaped (ly L t).k.agg (nth .u vs j) = true := fun j t hj => by have := hs (j + 1) t (by simpa using hj); simpa only [nth] using this
    simp only [pickRes] at hp
    split at hp
    case h_2 => cases hp
    rename_i o
    split at hp
    case h_2 => cases hp
    rename_i t' es hn'
    simp only [cond_eq_ite, Bool.and_eq_true, nbeq, nble, Bool.not_eq_true'] at hp
    split at hp
    case isFalse => cases hp
    rename_i hc
    obtain ⟨⟨rfl, hm⟩, hu⟩ := hc
    simp only [Option.bind_eq_some_iff, Option.some.injEq, Prod.mk.injEq] at hp
    obtain ⟨⟨q1, q2⟩, hq, rfl, rfl⟩ := hp
    obtain ⟨us, u1, u2, u3⟩ := pickRes_ok hq r2 hs'
    simp only [VRel, RefOk, hn'] at r1
    obtain ⟨o1, hlt, o2⟩ := r1
    refine ⟨o :: us, by simp [u1], ⟨_, _, rfl, .inr ⟨hm, hlt, hu, by rw [hn']; rfl, by intro _ _ hq; cases hq⟩, u2⟩, fun Cn hn hK g1 g2 g3 g4 => ?_⟩
    have hidx : ∀ j, m + (o :: used).length + j = m + used.length + (j + 1) := fun j => by simp; omega
    obtain ⟨l1, l2⟩ := u3 Cn hn hK (fun j hj => by rw [hidx]; exact g1 (j + 1) (by simpa using hj)) (fun j hj hl => by rw [hidx]; exact g2 (j + 1) (by simpa using hj) hl) (fun j hj hl => by rw [hidx]; exact g3 (j + 1) (by simpa using hj) hl) (by simp at g4 ⊢; omega)
    obtain ⟨a1, a2⟩ := g1 0 (by simp)
    simp only [Nat.add_zero, nth] at a1 a2
    obtain ⟨b1, b2⟩ := g2 0 (by simp) (by simpa only [nth] using hlt)
    simp only [Nat.add_zero, nth] at b1 b2
    refine ⟨?_, q1, es, rfl, a1, by simpa [Nat.add_assoc] using l2⟩
    simp only [LRel, VRel, RefOk]
    exact ⟨x, xs', rfl, ⟨o1, a2, by rw [a1]; simp only; rw [b1]; exact o2⟩, l1⟩
end
end Go.Ev
/- The engine, part 25: a function's end. -/
namespace Go.Ev
open Go

section
variable {P : Program} {C0 C C' : Cx} {h0 h h' : List AObj} {t : List AV} {a : Act} {o : Oper} {nt : Nat} {E : Env}

theorem resVals_ok {s : St} (LK : LOk P C.L) (hE : C.L = E.L) (H : HRel C s.h) (T : TRel C s.h s.t a) : ∀ {rs : List ResultVar} {vs : List AV}, resVals E s rs = some vs → ∃ xs, LRel C s.h vs xs ∧
    (rs.mapM (fun | .tmp t => pure (a.tmps.getD t undef) | .cell b t => do loadVar t (← asAddr (a.tmps.getD b undef)) : ResultVar → Sem Value)).run P C.w = .ok xs C.w
  | [], vs, hv => by
    simp only [resVals, Option.some.injEq] at hv
    subst hv
    exact ⟨[], by simp only [LRel], by simp⟩
  | r :: rs, vs, hv => by
    simp only [resVals, Option.bind_eq_some_iff, Option.some.injEq] at hv
    obtain ⟨v, h1, vs', h2, rfl⟩ := hv
    obtain ⟨xs, g1, g2⟩ := resVals_ok LK hE H T h2
    cases r with
    | tmp t =>
      simp only [resVal, Option.some.injEq] at h1
      subst h1
      refine ⟨a.tmps.getD t undef :: xs, by simp only [LRel]; exact ⟨_, _, rfl, T.2 t, g1⟩, ?_⟩
      simp only [List.mapM_cons, Sem.run_bind, Sem.run_pure, Result.andThen_ok, g2]
    | cell b t =>
      simp only [resVal, loadA, Option.bind_eq_some_iff] at h1
      obtain ⟨cs, h3, h4⟩ := h1
      rw [← hE] at h3 h4
      have hk : (ly C.L t).k.known = true := by
        unfold loadFrom at h4
        cases hq : (ly C.L t).k.known
        · rw [hq] at h4; cases h4
        · rfl
      obtain ⟨i, z, Tt⟩ := LK.ty hk
      obtain ⟨bb, off, e1, e2⟩ := cellsAt_ok H (T.2 b) h3
      obtain ⟨x, e3, e4⟩ := run_loadVar (P := P) Tt e2 h4
      refine ⟨x :: xs, by simp only [LRel]; exact ⟨_, _, rfl, e4, g1⟩, ?_⟩
      have ha : (asAddr (a.tmps.getD b undef)).run P C.w = .ok ⟨bb, off, none⟩ C.w := by rw [e1]; rfl
      simp only [List.mapM_cons, Sem.run_bind, ha, Sem.run_pure, Result.andThen_ok, e3, g2]
theorem results_ok {s : St} {fn : Func} {vs : List AV} (LK : LOk P C.L) (hE : C.L = E.L) (H : HRel C s.h) (T : TRel C s.h s.t a) (hv : resVals E s fn.results.toList = some vs) : ∃ xs, LRel C s.h vs xs ∧ (results fn a.tmps).run P C.w = .ok (oneV xs) C.w := by
  obtain ⟨xs, h1, h2⟩ := resVals_ok LK hE H T hv
  refine ⟨xs, h1, ?_⟩
  unfold results
  rw [Array.mapM_eq_mapM_toList]
  simp only [Sem.run_bind, Sem.run_map, Sem.run_pure]
  refine (congrArg (fun r => (Result.andThen r _).andThen _) h2).trans ?_
  simp only [Result.andThen_ok]
  congr 1
  match xs with
  | [] => rfl
  | [x] => rfl
  | x :: y :: zs => simp [oneV]

theorem pick_get {m : Nat} : ∀ {used us : List Nat} {new : List AObj}, Pick h m used us new → ∀ j, j < us.length → j < new.length ∧ ((nth 0 us j = h.length ∧ ∃ e, nth .dead new j = .arr e [] ⟨true, true⟩ 0 0) ∨ (m ≤ nth 0 us j ∧ nth 0 us j < h.length ∧ mem (nth 0 us j) used = false ∧ nth .dead new j = reset0 (nth .dead h (nth 0 us j)) ∧ ∀ e row, nth .dead new j ≠ .box e row))
  | used, [], new, hp, j, hj => by simp at hj
  | used, u :: us, new, hp, j, hj => by
    obtain ⟨x, xs, rfl, h1, h2⟩ := hp
    cases j with
    | zero => exact ⟨by simp, by simpa only [nth] using h1⟩
    | succ j =>
      obtain ⟨g1, g2⟩ := pick_get h2 j (by simpa using hj)
      refine ⟨by simpa using g1, ?_⟩
      simp only [nth]
      rcases g2 with g2 | ⟨a1, a2, a3, a4⟩
      · exact .inl g2
      · refine .inr ⟨a1, a2, ?_, a4⟩
        simp only [mem, Bool.or_eq_false_iff] at a3
        exact a3.2
theorem pick_inj {m : Nat} : ∀ {used us : List Nat} {new : List AObj}, Pick h m used us new → ∀ j j', j < us.length → j' < us.length → nth 0 us j < h.length → nth 0 us j = nth 0 us j' → j = j'
  | used, [], new, hp, j, j', hj, _, _, _ => by simp at hj
  | used, u :: us, new, hp, j, j', hj, hj', hl, he => by
    obtain ⟨x, xs, rfl, h1, h2⟩ := hp
    have key : ∀ k, k < us.length → nth 0 us k < h.length → nth 0 us k ≠ u := fun k hk hl hq => by
      obtain ⟨_, g⟩ := pick_get h2 k hk
      rcases g with ⟨g, _⟩ | ⟨_, _, g, _⟩
      · omega
      · rw [hq] at g; simp [mem] at g
    cases j with
    | zero =>
      cases j' with
      | zero => rfl
      | succ j' =>
        simp only [nth] at he hl
        exact absurd he.symm (key j' (by simpa using hj') (by omega))
    | succ j =>
      cases j' with
      | zero =>
        simp only [nth] at he hl
        exact absurd he (key j (by simpa using hj) hl)
      | succ j' =>
        simp only [nth] at he hl
        rw [pick_inj h2 j j' (by simpa using hj) (by simpa using hj') hl he]
theorem nth_takeO : ∀ (m : Nat) (hs : List AObj) (k : Nat), k < m → m ≤ hs.length → nth .dead (takeO m hs) k = reset0 (nth .dead hs k)
  | 0, hs, k, hk, _ => by omega
  | m + 1, [], k, _, hl => by simp at hl
  | m + 1, x :: hs, 0, _, _ => rfl
  | m + 1, x :: hs, k + 1, hk, hl => by simp only [takeO, nth]; exact nth_takeO m hs k (by omega) (by simpa using hl)
theorem takeO_length : ∀ (m : Nat) (hs : List AObj), m ≤ hs.length → (takeO m hs).length = m
  | 0, hs, _ => rfl
  | m + 1, [], hl => by simp at hl
  | m + 1, x :: hs, hl => by simp only [takeO, List.length_cons, takeO_length m hs (by simpa using hl)]
theorem okPasses_get {L : List Ly} : ∀ {h0 h : List AObj}, okPasses L h0 h = true → ∀ k, k < h0.length → k < h.length ∧ okPass L (nth .dead h0 k) (nth .dead h k) = true
  | [], h, _, k, hk => by simp at hk
  | _ :: _, [], hp, k, hk => by simp [okPasses] at hp
  | a :: as, b :: bs, hp, k, hk => by
    simp only [okPasses, Bool.and_eq_true] at hp
    cases k with
    | zero => exact ⟨by simp, hp.1⟩
    | succ k =>
      obtain ⟨g1, g2⟩ := okPasses_get hp.2 k (by simpa using hk)
      exact ⟨by simpa using g1, g2⟩
theorem okPasses_of {L : List Ly} : ∀ {h0 h : List AObj}, (∀ k, k < h0.length → k < h.length ∧ okPass L (nth .dead h0 k) (nth .dead h k) = true) → okPasses L h0 h = true
  | [], h, _ => rfl
  | a :: as, [], hp => by have := (hp 0 (by simp)).1; simp at this
  | a :: as, b :: bs, hp => by
    simp only [okPasses, Bool.and_eq_true]
    exact ⟨(hp 0 (by simp)).2, okPasses_of fun k hk => by
      obtain ⟨g1, g2⟩ := hp (k + 1) (by simpa using hk)
      exact ⟨by simpa using g1, g2⟩⟩
theorem pass_reset {L : List Ly} {x y : AObj} (hp : okPass L x y = true) : reset0 y = y := by
  cases x <;> cases y <;> simp [okPass] at hp <;> try rfl
  simp only [reset0, hp.2]
def refIdx : AV → Option Nat
  | .own o _ => some o
  | .sl o _ _ _ => some o
  | .ptr o _ _ _ => some o
  | .map o => some o
  | _ => none
theorem ref_lt {c : AV} {v : Value} {o : Nat} (hr : RefOk C h c v) (ho : refIdx c = some o) : o < h.length := by
  cases c <;> simp only [refIdx, Option.some.injEq, reduceCtorEq] at ho <;> subst ho <;> simp only [RefOk] at hr <;> exact hr.2.1
theorem ref_keep {c : AV} {v : Value} {o : Nat} (ho : refIdx c = some o) (hs : nth .dead h' o = nth .dead h o) (hlt : o < h'.length) (hL : C'.L = C.L) (hmu : C'.mu o = C.mu o) (hk : C'.kap o = C.kap o) (hr : RefOk C h c v) : RefOk C' h' c v := by
  have hes : ∀ e, C'.es e = C.es e := fun e => by simp only [Cx.es, hL]
  cases c <;> simp only [refIdx, Option.some.injEq, reduceCtorEq] at ho <;> subst ho <;> simp only [RefOk, OwnOk, SlOk, hs, hmu, hk, hes] at hr ⊢ <;> exact ⟨hr.1, hlt, hr.2.2⟩
theorem vrel_ref {c : AV} {v : Value} {o : Nat} (ho : refIdx c = some o) : VRel C h c v ↔ RefOk C h c v := by
  cases c <;> simp only [refIdx, reduceCtorEq] at ho <;> simp only [VRel]
/-- what stays the same below m -/
structure Below (C : Cx) (h : List AObj) (C' : Cx) (h' : List AObj) (m : Nat) : Prop where
  L : C'.L = C.L
  len : m ≤ h'.length
  obj : ∀ o, o < m → nth .dead h' o = nth .dead h o ∧ C'.mu o = C.mu o ∧ C'.kap o = C.kap o
theorem same_caps {m : Nat} (B : Below C h C' h' m) : ∀ {cs ds : List AV} {us vs : List Value}, refSame.same cs ds = true → LRel C0 h0 cs us → h0.length = m → LRel C h ds vs → LRel C' h' ds vs
  | [], [], us, vs, _, _, _, hr => by simpa only [LRel] using hr
  | [], _ :: _, _, _, hs, _, _, _ => by simp [refSame.same] at hs
  | _ :: _, [], _, _, hs, _, _, _ => by simp [refSame.same] at hs
  | c :: cs, d :: ds, us, vs, hs, h0r, hm, hr => by
    simp only [LRel] at h0r hr ⊢
    obtain ⟨u, us', rfl, u1, u2⟩ := h0r
    obtain ⟨v, vs', rfl, v1, v2⟩ := hr
    have key : ∀ o, refIdx c = some o → d = c → refSame.same cs ds = true → ∃ w ws', v :: vs' = w :: ws' ∧ VRel C' h' d w ∧ LRel C' h' ds ws' := fun o ho he hss => by
      subst he
      have hlt := ref_lt ((vrel_ref ho).1 u1) ho
      obtain ⟨b1, b2, b3⟩ := B.obj o (by omega)
      exact ⟨v, vs', rfl, (vrel_ref ho).2 (ref_keep ho b1 (by have := B.len; omega) B.L b2 b3 ((vrel_ref ho).1 v1)), same_caps B hss u2 hm v2⟩
    unfold refSame.same at hs
    split at hs
    · rename_i he _; cases he
    · rename_i o v i j cs' o' v' i' j' ds' he he'
      simp only [List.cons.injEq] at he he'
      obtain ⟨rfl, rfl⟩ := he
      obtain ⟨rfl, rfl⟩ := he'
      simp only [Bool.and_eq_true, nbeq] at hs
      obtain ⟨⟨⟨⟨rfl, rfl⟩, rfl⟩, rfl⟩, hs⟩ := hs
      exact key _ rfl rfl hs
    · rename_i o cs' o' ds' he he'
      simp only [List.cons.injEq] at he he'
      obtain ⟨rfl, rfl⟩ := he
      obtain ⟨rfl, rfl⟩ := he'
      simp only [Bool.and_eq_true, nbeq] at hs
      obtain ⟨rfl, hs⟩ := hs
      exact key _ rfl rfl hs
    · cases hs
theorem same_ref {m : Nat} (B : Below C h C' h' m) {c d : AV} {u v : Value} (hs : refSame c d = true) (h0r : VRel C0 h0 c u) (hm : h0.length = m) (hr : VRel C h d v) : VRel C' h' d v := by
  have key : ∀ o, refIdx c = some o → d = c → VRel C' h' d v := fun o ho he => by
    subst he
    have hlt := ref_lt ((vrel_ref ho).1 h0r) ho
    obtain ⟨b1, b2, b3⟩ := B.obj o (by omega)
    exact (vrel_ref ho).2 (ref_keep ho b1 (by have := B.len; omega) B.L b2 b3 ((vrel_ref ho).1 hr))
  unfold refSame at hs
  split at hs
  · simp only [Bool.and_eq_true, nbeq] at hs
    obtain ⟨⟨⟨rfl, rfl⟩, rfl⟩, rfl⟩ := hs
    exact key _ rfl rfl
  · simp only [nbeq] at hs; subst hs; exact key _ rfl rfl
  · simp only [Bool.and_eq_true, nbeq] at hs
    obtain ⟨rfl, rfl⟩ := hs
    exact key _ rfl rfl
  · simp only [Bool.and_eq_true, nbeq] at hs
    obtain ⟨rfl, hs⟩ := hs
    simp only [VRel] at h0r hr ⊢
    obtain ⟨us, _, g1⟩ := h0r
    obtain ⟨vs, q1, q2⟩ := hr
    exact ⟨vs, q1, same_caps B hs g1 hm q2⟩
  · cases hs
theorem okBack_lrel {m : Nat} (B : Below C h C' h' m) (K : Keep C C') (hm : h0.length = m) : ∀ {ks : List CK} {cs ds : List AV} {us vs : List Value}, okBack ks cs ds = true → LRel C0 h0 cs us → LRel C h ds vs → LRel C' h' ds vs
  | ks, [], [], us, vs, _, _, hr => by simpa only [LRel] using hr
  | ks, [], _ :: _, _, _, hb, _, _ => by simp [okBack] at hb
  | ks, _ :: _, [], _, _, hb, _, _ => by simp [okBack] at hb
  | ks, c :: cs, d :: ds, us, vs, hb, h0r, hr => by
    simp only [okBack, Bool.and_eq_true] at hb
    simp only [LRel] at h0r hr ⊢
    obtain ⟨u, us', rfl, u1, u2⟩ := h0r
    obtain ⟨v, vs', rfl, v1, v2⟩ := hr
    refine ⟨v, vs', rfl, ?_, okBack_lrel B K hm hb.2 u2 v2⟩
    have h1 := hb.1
    cases hi : isRef c
    · rw [hi] at h1; exact plain_vrel K (okCell_plain h1) v1
    · rw [hi] at h1; exact same_ref B h1 u1 hm v1
end
end Go.Ev
/- The engine, part 26: a function's end, told to its caller; a function's body. -/
namespace Go.Ev
open Go

/-- What a callee gives: for any objects and arguments that stand for the machine's. -/
def CallOk (P : Program) (E : Env) : Prop := ∀ {C : Cx} {h : List AObj} {f : Nat} {args : List AV} {rs : List AV} {h' : List AObj} {vs : List Value}, C.L = E.L → HRel C h → LRel C h args vs → E.call f args h = some (rs, h') →
  (∃ fn, P.funcs[f]? = some fn ∧ fn.body.isNone = false ∧ (fn.name == "runtime.NumGoroutine") = false) ∧
  Calls P f vs.toArray C.w fun
    | .returned x, w' => ∃ C' xs, C'.w = w' ∧ Step E.nt C h C' h' ∧ HRel C' h' ∧ LRel C' h' rs xs ∧ x = oneV xs ∧ ResOk E.L h' h.length (sig E.F f).res rs ∧ okPasses E.L h h' = true
    | _, _ => False

section
variable {P : Program} {C0 C C' : Cx} {h0 h h' : List AObj} {t : List AV} {a : Act} {o : Oper} {nt : Nat} {E : Env}

theorem reset_live (x : AObj) : live (reset0 x) = live x := by cases x <;> rfl
theorem finish_ok {fn : Func} {res : List RK} {rs : List AV} {s : St} (LK : LOk P C0.L) (hE : C0.L = E.L) (H0 : HRel C0 h0) (R : SRel E.nt C0 h0 C s a) (hf : finish E fn res h0 s = some (rs, h')) :
    ∃ xs C', (results fn a.tmps).run P C.w = .ok (oneV xs) C.w ∧ C'.w = C.w ∧ Step E.nt C0 h0 C' h' ∧ HRel C' h' ∧ LRel C' h' rs xs ∧ ResOk E.L h' h0.length res rs ∧ okPasses E.L h0 h' = true := by
  simp only [finish, Option.bind_eq_some_iff] at hf
  obtain ⟨vs, hvs, ⟨vs1, hF⟩, hfz, hf⟩ := hf
  simp only [cond_eq_ite] at hf
  split at hf
  case isFalse => cases hf
  rename_i hpass
  simp only [Option.bind_eq_some_iff, Option.some.injEq, Prod.mk.injEq] at hf
  obtain ⟨⟨q1, new⟩, hpick, rfl, rfl⟩ := hf
  have hL : C.L = C0.L := R.step.ext.L
  obtain ⟨xs, l0, hres⟩ := results_ok (P := P) (by rw [hL]; exact LK) (hL.trans hE) R.h R.t hvs
  obtain ⟨C1, w1, s1, H1, l1⟩ := frzRes_ok R.h l0 hfz
  have S1 := R.step.trans s1
  have hL1 : C1.L = C0.L := S1.ext.L
  obtain ⟨us, hul, hpk, hfin⟩ := pickRes_ok hpick l1 (frzRes_shape hfz)
  have hm : h0.length ≤ hF.length := S1.ext.len
  have htl := takeO_length h0.length hF hm
  simp only [List.length_nil, Nat.add_zero] at hfin
  let C' : Cx := { C1 with mu := fun k => if k < h0.length then C1.mu k else C1.mu (nth 0 us (k - h0.length)), kap := fun k => if k < h0.length then C1.kap k else if nth 0 us (k - h0.length) < hF.length then C1.kap (nth 0 us (k - h0.length)) else 0 }
  have K : Keep C1 C' := ⟨rfl, fun t b x hq => ⟨hq, rfl⟩⟩
  have hlow : ∀ k, k < h0.length → nth .dead (takeO h0.length hF ++ new) k = nth .dead hF k := fun k hk => by
    rw [nth_append, htl, if_pos hk, nth_takeO _ _ _ hk hm]
    exact pass_reset (okPasses_get hpass k hk).2
  have hhigh : ∀ j, nth .dead (takeO h0.length hF ++ new) (h0.length + j) = nth .dead new j := fun j => by
    rw [nth_append, htl, if_neg (by omega)]; congr 1; omega
  have hlen : (takeO h0.length hF ++ new).length = h0.length + new.length := by rw [List.length_append, htl]
  have hmuL : ∀ k, k < h0.length → C'.mu k = C1.mu k ∧ C'.kap k = C1.kap k := fun k hk => ⟨by simp [C', hk], by simp [C', hk]⟩
  have hmuH : ∀ j, C'.mu (h0.length + j) = C1.mu (nth 0 us j) := fun j => by
    show (if h0.length + j < h0.length then _ else C1.mu (nth 0 us (h0.length + j - h0.length))) = _
    rw [if_neg (by omega), Nat.add_sub_cancel_left]
  have hkapH : ∀ j, nth 0 us j < hF.length → C'.kap (h0.length + j) = C1.kap (nth 0 us j) := fun j hj => by
    show (if h0.length + j < h0.length then _ else if nth 0 us (h0.length + j - h0.length) < hF.length then C1.kap (nth 0 us (h0.length + j - h0.length)) else 0) = _
    rw [if_neg (by omega), Nat.add_sub_cancel_left, if_pos hj]
  have hkapN : ∀ j, nth 0 us j = hF.length → C'.kap (h0.length + j) = 0 := fun j hj => by
    show (if h0.length + j < h0.length then _ else if nth 0 us (h0.length + j - h0.length) < hF.length then C1.kap (nth 0 us (h0.length + j - h0.length)) else 0) = _
    rw [if_neg (by omega), Nat.add_sub_cancel_left, if_neg (by omega)]
  have B : Below C1 hF C' (takeO h0.length hF ++ new) h0.length := ⟨rfl, by omega, fun k hk => ⟨hlow k hk, (hmuL k hk).1, (hmuL k hk).2⟩⟩
  obtain ⟨lr, ro⟩ := hfin C' (takeO h0.length hF ++ new) K (fun j hj => ⟨hhigh j, by omega⟩) (fun j hj hl => ⟨hmuH j, hkapH j hl⟩) (fun j hj hl => hkapN j hl) hlen
  -- a living object of the end is one of the objects ahead of it
  have src : ∀ k, k < h0.length + new.length → live (nth .dead (takeO h0.length hF ++ new) k) = true → ∃ u, u < hF.length ∧ live (nth .dead hF u) = true ∧ C'.mu k = C1.mu u ∧ (k < h0.length → u = k) ∧ (h0.length ≤ k → h0.length ≤ u ∧ u = nth 0 us (k - h0.length)) := fun k hk hl => by
    by_cases hkm : k < h0.length
    · rw [hlow k hkm] at hl
      exact ⟨k, by omega, hl, (hmuL k hkm).1, fun _ => rfl, fun hq => by omega⟩
    · obtain ⟨j, rfl⟩ : ∃ j, k = h0.length + j := ⟨k - h0.length, by omega⟩
      rw [hhigh j] at hl
      obtain ⟨g1, g2⟩ := pick_get hpk j (by omega)
      rcases g2 with ⟨g2, e, g3⟩ | ⟨g2, g3, _, g4, _⟩
      · rw [g3] at hl; simp [live] at hl
      · rw [g4, reset_live] at hl
        exact ⟨nth 0 us j, g3, hl, hmuH j, fun hq => by omega, fun _ => ⟨g2, by simp⟩⟩
  have hstep : Step E.nt C0 h0 C' (takeO h0.length hF ++ new) := by
    refine ⟨⟨hL1, S1.ext.fixed, by omega, fun k hk => ?_⟩, S1.os, S1.tape, S1.output, S1.size, S1.kept, fun k hk hl => ?_, S1.news⟩
    · rw [hlow k hk, (hmuL k hk).1, (hmuL k hk).2]
      exact S1.ext.obj k hk
    · obtain ⟨u, u1, u2, u3, _⟩ := src k (by omega) hl
      rw [u3]
      exact S1.newb u u1 u2
  have hrel : HRel C' (takeO h0.length hF ++ new) := by
    refine ⟨fun k hk => ?_, fun k k' hk hk' hl hl' he => ?_, H1.fix⟩
    · by_cases hkm : k < h0.length
      · rw [hlow k hkm]
        have hob := H1.obj k (by omega)
        obtain ⟨m1, m2⟩ := hmuL k hkm
        have hps := (okPasses_get hpass k hkm).2
        cases hx : nth .dead hF k with
        | dead => trivial
        | box e row =>
          rw [hx] at hob hps
          obtain ⟨cs, g1, g2, g3, g4, g5⟩ := hob
          have hob0 := H0.obj k hkm
          cases hx0 : nth .dead h0 k <;> rw [hx0] at hps hob0 <;> simp [okPass] at hps
          obtain ⟨rfl, hps⟩ := hps
          obtain ⟨cs0, k1, k2, k3, k4, k5⟩ := hob0
          exact ⟨cs, by rw [m1]; exact g1, g2, by rw [m1]; exact g3, okBack_lrel B K rfl hps k4 g4, trivial⟩
        | arr e rows c v fz =>
          rw [hx] at hob
          obtain ⟨b1, b2, b3⟩ := hob
          refine ⟨b1, by rw [m2]; exact b2, fun hq => ?_⟩
          obtain ⟨cs, g1, g2, g3, g4, g5⟩ := b3 hq
          exact ⟨cs, by rw [m1]; exact g1, by rw [m2]; exact g2, by rw [m2]; exact g3, by rw [m1]; exact g4, fun i hi => plain_rowAt K (g5 i hi)⟩
        | mp tt es =>
          rw [hx] at hob
          obtain ⟨kt, vt, ys, ck, g1, g2, g3⟩ := hmap_obj hob
          have g1' : (ly C'.L tt).k = .map kt vt := g1
          simp only [HObj, g1']
          exact ⟨ys, ck, by rw [m1]; exact g2, plain_ents K g3⟩
      · obtain ⟨j, rfl⟩ : ∃ j, k = h0.length + j := ⟨k - h0.length, by omega⟩
        rw [hhigh j]
        obtain ⟨g1, g2⟩ := pick_get hpk j (by omega)
        rcases g2 with ⟨g2, e, g3⟩ | ⟨g2, g3, _, g4, g5⟩
        · rw [g3]
          exact ⟨Nat.le_refl _, fun _ => ⟨rfl, hkapN j g2⟩, fun hq => by simp at hq⟩
        · have hob := H1.obj _ g3
          have m1 := hmuH j
          have m2 := hkapH j g3
          rw [g4]
          cases hx : nth .dead hF (nth 0 us j) with
          | dead => trivial
          | box e row => rw [g4, hx] at g5; exact absurd rfl (g5 e row)
          | arr e rows c v fz =>
            rw [hx] at hob
            obtain ⟨b1, b2, b3⟩ := hob
            refine ⟨b1, by rw [m2]; exact b2, fun hq => ?_⟩
            obtain ⟨cs, g1, g2, g3, g4, g5⟩ := b3 hq
            exact ⟨cs, by rw [m1]; exact g1, by rw [m2]; exact g2, by rw [m2]; exact g3, by rw [m1]; exact g4, fun i hi => plain_rowAt K (g5 i hi)⟩
          | mp tt es =>
            rw [hx] at hob
            obtain ⟨kt, vt, ys, ck, g1, g2, g3⟩ := hmap_obj hob
            have g1' : (ly C'.L tt).k = .map kt vt := g1
            simp only [HObj, reset0, g1']
            exact ⟨ys, ck, by rw [m1]; exact g2, plain_ents K g3⟩
    · obtain ⟨u, u1, u2, u3, u4, u5⟩ := src k (by omega) hl
      obtain ⟨u', u1', u2', u3', u4', u5'⟩ := src k' (by omega) hl'
      have hu : u = u' := H1.inj u u' u1 u1' u2 u2' (by rw [← u3, ← u3', he])
      subst hu
      by_cases h1 : k < h0.length <;> by_cases h2 : k' < h0.length
      · rw [← u4 h1, ← u4' h2]
      · have := u4 h1; have := (u5' (by omega)).1; omega
      · have := u4' h2; have := (u5 (by omega)).1; omega
      · have e1 := (u5 (by omega)).2
        have e2 := (u5' (by omega)).2
        have := pick_inj hpk (k - h0.length) (k' - h0.length) (by omega) (by omega) (by omega) (by rw [← e1, ← e2])
        omega
  refine ⟨xs, C', hres, w1, hstep, hrel, lr, ro, ?_⟩
  refine okPasses_of fun k hk => ⟨by show k < (takeO h0.length hF ++ new).length; omega, ?_⟩
  show okPass E.L _ (nth .dead (takeO h0.length hF ++ new) k) = true
  rw [hlow k hk]
  exact (okPasses_get hpass k hk).2
end
end Go.Ev
/- The engine, part 27: what a call hands over. -/
namespace Go.Ev
open Go

section
variable {P : Program} {C0 C C' : Cx} {h0 h h' : List AObj} {t : List AV} {a : Act} {o : Oper} {nt : Nat} {E : Env}

theorem frzArgs_ok : ∀ {bs : List Bool} {vs vs' : List AV} {C : Cx} {h h' : List AObj} {xs : List Value}, HRel C h → LRel C h vs xs → frzArgs nt h bs vs = some (vs', h') → ∃ C', C'.w = C.w ∧ Step nt C h C' h' ∧ HRel C' h' ∧ LRel C' h' vs' xs
  | bs, [], vs', C, h, h', xs, H, hr, hf => by
    simp only [frzArgs, Option.some.injEq, Prod.mk.injEq] at hf
    obtain ⟨rfl, rfl⟩ := hf
    exact ⟨C, rfl, Step.refl _ C h, H, hr⟩
  | bs, v :: vs, vs', C, h, h', xs, H, hr, hf => by
    simp only [frzArgs, Option.bind_eq_some_iff, Option.some.injEq, Prod.mk.injEq] at hf
    obtain ⟨⟨v1, h1⟩, hz, ⟨q1, q2⟩, hq, rfl, rfl⟩ := hf
    simp only [LRel] at hr
    obtain ⟨x, xs', rfl, r1, r2⟩ := hr
    have one : ∃ C1, C1.w = C.w ∧ Step nt C h C1 h1 ∧ HRel C1 h1 ∧ VRel C1 h1 v1 x := by
      split at hz
      · simp only [Option.some.injEq, Prod.mk.injEq] at hz
        obtain ⟨rfl, rfl⟩ := hz
        exact ⟨C, rfl, Step.refl _ C h, H, r1⟩
      · exact frz_ok H r1 hz
    obtain ⟨C1, w1, s1, H1, g1⟩ := one
    obtain ⟨C2, w2, s2, H2, l2⟩ := frzArgs_ok H1 (lrel_ext s1.ext r2) hq
    exact ⟨C2, w2.trans w1, s1.trans s2, H2, by simp only [LRel]; exact ⟨x, xs', rfl, vrel_ext s2.ext g1, l2⟩⟩
theorem idxOf_ok {o : Nat} : ∀ {ids : List Nat} {k i : Nat}, idxOf o ids k = some i → k ≤ i ∧ i - k < ids.length ∧ nth 0 ids (i - k) = o
  | [], k, i, hi => by simp [idxOf] at hi
  | p :: ps, k, i, hi => by
    simp only [idxOf, cond_eq_ite, nbeq] at hi
    split at hi
    · rename_i he
      simp only [Option.some.injEq] at hi
      subst hi
      exact ⟨Nat.le_refl _, by simp, by simp [nth, he]⟩
    · obtain ⟨g1, g2, g3⟩ := idxOf_ok hi
      refine ⟨by omega, by simp; omega, ?_⟩
      obtain ⟨m, hm⟩ : ∃ m, i - k = m + 1 := ⟨i - k - 1, by omega⟩
      rw [hm]
      simp only [nth]
      rw [← g3]; congr 1; omega
theorem idxOf_some {o : Nat} : ∀ {ids : List Nat} {j : Nat} (k : Nat), j < ids.length → nth 0 ids j = o → ∃ i, idxOf o ids k = some i
  | [], j, k, hj, _ => by simp at hj
  | p :: ps, j, k, hj, he => by
    simp only [idxOf]
    cases hb : Nat.beq o p
    · cases j with
      | zero => simp only [nth] at he; subst he; rw [nbeq.2 rfl] at hb; cases hb
      | succ j => exact idxOf_some (k + 1) (by simpa using hj) (by simpa only [nth] using he)
    · exact ⟨k, rfl⟩
theorem inL_iff {x : Nat} : ∀ {l : List Nat}, noDup.inL x l = true ↔ ∃ j, j < l.length ∧ nth 0 l j = x
  | [] => by simp [noDup.inL]
  | y :: l => by
    simp only [noDup.inL, Bool.or_eq_true, nbeq, inL_iff (l := l)]
    constructor
    · rintro (rfl | ⟨j, h1, h2⟩)
      · exact ⟨0, by simp, rfl⟩
      · exact ⟨j + 1, by simpa using h1, h2⟩
    · rintro ⟨j, h1, h2⟩
      cases j with
      | zero => exact .inl h2.symm
      | succ j => exact .inr ⟨j, by simpa using h1, h2⟩
theorem noDup_inj : ∀ {l : List Nat}, noDup l = true → ∀ i j, i < l.length → j < l.length → nth 0 l i = nth 0 l j → i = j
  | [], _, i, j, hi, _, _ => by simp at hi
  | y :: l, hd, i, j, hi, hj, he => by
    simp only [noDup, Bool.and_eq_true] at hd
    have hn : ∀ k, k < l.length → nth 0 l k ≠ y := fun k hk hq => by
      have : noDup.inL y l = true := inL_iff.2 ⟨k, hk, hq⟩
      rw [this] at hd; simp at hd
    cases i with
    | zero =>
      cases j with
      | zero => rfl
      | succ j => simp only [nth] at he; exact absurd he.symm (hn j (by simpa using hj))
    | succ i =>
      cases j with
      | zero => simp only [nth] at he; exact absurd he (hn i (by simpa using hi))
      | succ j => simp only [nth] at he; rw [noDup_inj hd.2 i j (by simpa using hi) (by simpa using hj) he]
theorem renObjs_get {ids0 : List Nat} : ∀ {os : List Nat} {hs : List AObj}, renObjs h ids0 os = some hs → hs.length = os.length ∧ ∀ i, i < os.length → renObj h ids0 (nth .dead h (nth 0 os i)) = some (nth .dead hs i)
  | [], hs, hr => by
    simp only [renObjs, Option.some.injEq] at hr
    subst hr
    exact ⟨rfl, fun i hi => by simp at hi⟩
  | o :: os, hs, hr => by
    simp only [renObjs, Option.bind_eq_some_iff, Option.some.injEq] at hr
    obtain ⟨x, hx, xs, hxs, rfl⟩ := hr
    obtain ⟨g1, g2⟩ := renObjs_get hxs
    refine ⟨by simp [g1], fun i hi => ?_⟩
    cases i with
    | zero => simpa only [nth] using hx
    | succ i => simp only [nth]; exact g2 i (by simpa using hi)
/-- the callee's context -/
def Cx.ren (C : Cx) (ids : List Nat) : Cx := { C with mu := fun i => C.mu (nth 0 ids i), kap := fun i => C.kap (nth 0 ids i) }
theorem ren_keep (ids : List Nat) : Keep C (C.ren ids) := ⟨rfl, fun t b x hq => ⟨hq, rfl⟩⟩
mutual
theorem ren_ok {C : Cx} {h hs : List AObj} {ids : List Nat} (hr : renObjs h ids ids = some hs) : ∀ {v v' : AV} {x : Value}, VRel C h v x → ren h ids v = some v' → VRel (C.ren ids) hs v' x
  | .own o ver, v', x, hv, he => by
    obtain ⟨hl, hg⟩ := renObjs_get hr
    simp only [ren] at he
    split at he
    · rename_i e rows c w fz hn
      simp only [cond_eq_ite, nbeq] at he
      split at he
      · rename_i hw; subst hw
        simp only [Option.bind_eq_some_iff, Option.some.injEq] at he
        obtain ⟨i, hi, rfl⟩ := he
        obtain ⟨_, i1, i2⟩ := idxOf_ok hi
        simp only [Nat.sub_zero] at i1 i2
        have hob := hg i i1
        rw [i2, hn] at hob
        simp only [renObj, Option.some.injEq] at hob
        obtain ⟨_, q⟩ := own_value hn hv
        have h1 := hv
        simp only [VRel, RefOk] at h1
        obtain ⟨ad, q1, q2, q3, q4⟩ := q
        exact own_any (w' := 0) (by omega) hob.symm h1.1 ⟨ad, by simp only [Cx.ren, i2]; exact q1, q2, by simp only [Cx.ren, i2]; exact q3, by simp only [Cx.ren, i2]; exact q4⟩
      · simp only [Option.some.injEq] at he; subst he; simp only [VRel]
    · simp only [Option.some.injEq] at he; subst he; simp only [VRel]
  | .sl o ver off len, v', x, hv, he => by
    obtain ⟨hl, hg⟩ := renObjs_get hr
    simp only [ren] at he
    split at he
    · rename_i e rows c w fz hn
      simp only [cond_eq_ite, nbeq] at he
      split at he
      · rename_i hw; subst hw
        simp only [Option.bind_eq_some_iff, Option.some.injEq] at he
        obtain ⟨i, hi, rfl⟩ := he
        obtain ⟨_, i1, i2⟩ := idxOf_ok hi
        simp only [Nat.sub_zero] at i1 i2
        have hob := hg i i1
        rw [i2, hn] at hob
        simp only [renObj, Option.some.injEq] at hob
        obtain ⟨_, q⟩ := sl_value hn hv
        have h1 := hv
        simp only [VRel, RefOk] at h1 ⊢
        refine ⟨h1.1, by omega, ?_⟩
        rw [← hob]
        refine ⟨Nat.le_refl _, fun _ => ?_⟩
        obtain ⟨ad, q1, q2, q3, q4, q5⟩ := q
        exact ⟨ad, by simp only [Cx.ren, i2]; exact q1, q2, by simp only [Cx.ren, i2]; exact q3, q4, by simp only [Cx.ren, i2]; exact q5⟩
      · simp only [Option.some.injEq] at he; subst he; simp only [VRel]
    · simp only [Option.some.injEq] at he; subst he; simp only [VRel]
  | .ptr o ver a b, v', x, hv, he => by
    obtain ⟨hl, hg⟩ := renObjs_get hr
    have h1 := hv
    simp only [VRel, RefOk] at h1
    simp only [ren] at he
    split at he
    · rename_i e row hn
      simp only [Option.bind_eq_some_iff, Option.some.injEq] at he
      obtain ⟨i, hi, rfl⟩ := he
      obtain ⟨_, i1, i2⟩ := idxOf_ok hi
      simp only [Nat.sub_zero] at i1 i2
      have hob := hg i i1
      rw [i2, hn] at hob
      simp only [renObj, Option.bind_eq_some_iff, Option.some.injEq] at hob
      obtain ⟨row', _, hob⟩ := hob
      rw [hn] at h1
      simp only [VRel, RefOk]
      refine ⟨h1.1, by omega, ?_⟩
      rw [← hob]
      simp only [Cx.ren, i2]; exact h1.2.2
    · rename_i e rows c w fz hn
      simp only [cond_eq_ite, nbeq] at he
      split at he
      · rename_i hw; subst hw
        simp only [Option.bind_eq_some_iff, Option.some.injEq] at he
        obtain ⟨i, hi, rfl⟩ := he
        obtain ⟨_, i1, i2⟩ := idxOf_ok hi
        simp only [Nat.sub_zero] at i1 i2
        have hob := hg i i1
        rw [i2, hn] at hob
        simp only [renObj, Option.some.injEq] at hob
        rw [hn] at h1
        simp only [VRel, RefOk]
        refine ⟨h1.1, by omega, ?_⟩
        rw [← hob]
        refine ⟨Nat.le_refl _, fun _ => ?_⟩
        have := h1.2.2.2 rfl
        exact ⟨this.1, this.2.1, by simp only [Cx.ren, i2]; exact this.2.2⟩
      · simp only [Option.some.injEq] at he; subst he; simp only [VRel]
    · simp only [Option.some.injEq] at he; subst he; simp only [VRel]
  | .map o, v', x, hv, he => by
    obtain ⟨hl, hg⟩ := renObjs_get hr
    have h1 := hv
    simp only [VRel, RefOk] at h1
    simp only [ren, Option.bind_eq_some_iff, Option.some.injEq] at he
    obtain ⟨i, hi, rfl⟩ := he
    obtain ⟨_, i1, i2⟩ := idxOf_ok hi
    simp only [Nat.sub_zero] at i1 i2
    have hob := hg i i1
    rw [i2] at hob
    simp only [VRel, RefOk]
    refine ⟨h1.1, by omega, ?_⟩
    obtain ⟨_, _, h3⟩ := h1
    cases hn : nth .dead h o <;> rw [hn] at hob h3 <;> simp only [renObj, reduceCtorEq, Option.bind_eq_some_iff, Option.some.injEq] at hob
    · exact h3.elim
    · exact h3.elim
    · rw [← hob]; simp only [Cx.ren, i2]; exact h3
  | .agg cs, v', x, hv, he => by
    simp only [ren, Option.bind_eq_some_iff, Option.some.injEq] at he
    obtain ⟨cs', h1, rfl⟩ := he
    simp only [VRel] at hv ⊢
    obtain ⟨vs, g1, g2⟩ := hv
    exact ⟨vs, g1, renL_ok hr g2 h1⟩
  | .tup cs, v', x, hv, he => by
    simp only [ren, Option.bind_eq_some_iff, Option.some.injEq] at he
    obtain ⟨cs', h1, rfl⟩ := he
    simp only [VRel] at hv ⊢
    obtain ⟨vs, g1, g2⟩ := hv
    exact ⟨vs, g1, renL_ok hr g2 h1⟩
  | .func f cs, v', x, hv, he => by
    simp only [ren, Option.bind_eq_some_iff, Option.some.injEq] at he
    obtain ⟨cs', h1, rfl⟩ := he
    cases f with
    | none => simpa only [VRel] using hv
    | some f =>
      simp only [VRel] at hv ⊢
      obtain ⟨vs, g1, g2⟩ := hv
      exact ⟨vs, g1, renL_ok hr g2 h1⟩
  | .pp tg cs, v', x, hv, he => by
    simp only [ren, Option.some.injEq] at he
    cases hp : allPlain cs
    · rw [hp] at he; simp only [cond_false] at he; subst he; simp only [VRel]
    · rw [hp] at he; simp only [cond_true] at he; subst he
      simp only [VRel] at hv ⊢
      obtain ⟨b, off, g1, g2⟩ := hv
      exact ⟨b, off, g1, plain_cells (ren_keep ids) hp g2⟩
  | .u, v', x, hv, he => by simp only [ren, plain, cond_false, Option.some.injEq] at he; subst he; simp only [VRel]
  | .iface t y, v', x, hv, he => by simp only [ren, plain, cond_false, Option.some.injEq] at he; subst he; simp only [VRel]
  | .int _ _, v', x, hv, he => by simp only [ren, plain, cond_true, Option.some.injEq] at he; subst he; simpa only [VRel] using hv
  | .bool _, v', x, hv, he => by simp only [ren, plain, cond_true, Option.some.injEq] at he; subst he; simpa only [VRel] using hv
  | .str _, v', x, hv, he => by simp only [ren, plain, cond_true, Option.some.injEq] at he; subst he; simpa only [VRel] using hv
  | .ps _ _ _ _, v', x, hv, he => by simp only [ren, plain, cond_true, Option.some.injEq] at he; subst he; exact plain_vrel (ren_keep ids) rfl hv
  | .nilptr, v', x, hv, he => by simp only [ren, plain, cond_true, Option.some.injEq] at he; subst he; simpa only [VRel] using hv
  | .nilmap, v', x, hv, he => by simp only [ren, plain, cond_true, Option.some.injEq] at he; subst he; simpa only [VRel] using hv
  | .niliface, v', x, hv, he => by simp only [ren, plain, cond_true, Option.some.injEq] at he; subst he; simpa only [VRel] using hv
theorem renL_ok {C : Cx} {h hs : List AObj} {ids : List Nat} (hr : renObjs h ids ids = some hs) : ∀ {vs vs' : List AV} {xs : List Value}, LRel C h vs xs → renL h ids vs = some vs' → LRel (C.ren ids) hs vs' xs
  | [], vs', xs, hv, he => by
    simp only [renL, Option.some.injEq] at he
    subst he
    simpa only [LRel] using hv
  | v :: vs, vs', xs, hv, he => by
    simp only [renL, Option.bind_eq_some_iff, Option.some.injEq] at he
    obtain ⟨v1, h1, vs1, h2, rfl⟩ := he
    simp only [LRel] at hv ⊢
    obtain ⟨x, xs', rfl, g1, g2⟩ := hv
    exact ⟨x, xs', rfl, ren_ok hr g1 h1, renL_ok hr g2 h2⟩
end
theorem ren_lt {hs : List AObj} {ids : List Nat} (hr : renObjs h ids ids = some hs) {i : Nat} (hi : i < ids.length) : nth 0 ids i < h.length := by
  obtain ⟨hl, hg⟩ := renObjs_get hr
  have := hg i hi
  apply Nat.lt_of_not_le
  intro hle
  rw [nth_ge _ h _ hle] at this
  simp [renObj] at this
theorem renObj_live {ids : List Nat} {x y : AObj} (hr : renObj h ids x = some y) : live y = live x := by
  cases x <;> simp only [renObj, Option.some.injEq, Option.bind_eq_some_iff, reduceCtorEq] at hr
  · obtain ⟨_, _, rfl⟩ := hr; rfl
  · subst hr; rfl
  · subst hr; rfl
theorem ren_hrel {hs : List AObj} {ids : List Nat} (H : HRel C h) (hd : noDup ids = true) (hr : renObjs h ids ids = some hs) : HRel (C.ren ids) hs := by
  obtain ⟨hl, hg⟩ := renObjs_get hr
  refine ⟨fun i hi => ?_, fun i j hi hj hli hlj he => ?_, H.fix⟩
  · rw [hl] at hi
    have hob := H.obj _ (ren_lt hr hi)
    have h1 := hg i hi
    revert h1 hob
    cases nth .dead h (nth 0 ids i) <;> intro hob h1 <;> simp only [renObj, Option.some.injEq, Option.bind_eq_some_iff, reduceCtorEq] at h1
    · obtain ⟨row', h2, h1⟩ := h1
      rw [← h1]
      obtain ⟨cs, g1, g2, g3, g4, g5⟩ := hob
      have hrl := renL_ok hr g4 h2
      exact ⟨cs, g1, by have e1 := lrel_length g4; have e2 := lrel_length hrl; omega, g3, hrl, trivial⟩
    · rw [← h1]
      obtain ⟨b1, b2, b3⟩ := hob
      refine ⟨b1, b2, fun hq => ?_⟩
      obtain ⟨cs, g1, g2, g3, g4, g5⟩ := b3 hq
      exact ⟨cs, g1, g2, g3, g4, fun k hk => plain_rowAt (ren_keep ids) (g5 k hk)⟩
    · rw [← h1]
      obtain ⟨kt, vt, ys, ck, g1, g2, g3⟩ := hmap_obj hob
      have g1' : (ly (C.ren ids).L _).k = .map kt vt := g1
      simp only [HObj, g1']
      exact ⟨ys, ck, g2, plain_ents (ren_keep ids) g3⟩
  · rw [hl] at hi hj
    rw [renObj_live (hg i hi)] at hli
    rw [renObj_live (hg j hj)] at hlj
    exact noDup_inj hd i j hi hj (H.inj _ _ (ren_lt hr hi) (ren_lt hr hj) hli hlj he)
end
end Go.Ev
/- The engine, part 28: what a call brings back. -/
namespace Go.Ev
open Go

section
variable {P : Program} {C0 C C' C3 C4 : Cx} {h0 h h' h4 hs r2 : List AObj} {t : List AV} {a : Act} {o : Oper} {nt : Nat} {E : Env}

theorem nth_drop {α : Type} (d : α) : ∀ (n : Nat) (xs : List α) (i : Nat), nth d (xs.drop n) i = nth d xs (n + i) := fun n xs i => by
  rw [nth_getElem?, nth_getElem?, List.getElem?_drop]
theorem resOk_le {L : List Ly} : ∀ {ks : List RK} {rs : List AV} {m : Nat}, ResOk L h m ks rs → m ≤ h.length
  | [], rs, m, hr => by rw [hr.2]; exact Nat.le_refl _
  | .v t :: ks, rs, m, hr => by obtain ⟨r, rs', _, _, _, _, g⟩ := hr; exact resOk_le g
  | .own t :: ks, rs, m, hr => by obtain ⟨rs', e, rows, c, fz, _, _, _, g⟩ := hr; have := resOk_le g; omega
  | .mp t :: ks, rs, m, hr => by obtain ⟨rs', es, _, _, g⟩ := hr; have := resOk_le g; omega
theorem resOk_obj {L : List Ly} : ∀ {ks : List RK} {rs : List AV} {m : Nat}, ResOk L h m ks rs → ∀ k, m ≤ k → k < h.length → (∃ e rows c fz, nth .dead h k = .arr e rows c 0 fz) ∨ ∃ t es, nth .dead h k = .mp t es
  | [], rs, m, hr, k, h1, h2 => by rw [hr.2] at h1; omega
  | .v t :: ks, rs, m, hr, k, h1, h2 => by obtain ⟨r, rs', _, _, _, _, g⟩ := hr; exact resOk_obj g k h1 h2
  | .own t :: ks, rs, m, hr, k, h1, h2 => by
    obtain ⟨rs', e, rows, c, fz, _, _, q, g⟩ := hr
    by_cases hk : k = m
    · subst hk; exact .inl ⟨e, rows, c, fz, q⟩
    · exact resOk_obj g k (by omega) h2
  | .mp t :: ks, rs, m, hr, k, h1, h2 => by
    obtain ⟨rs', es, _, q, g⟩ := hr
    by_cases hk : k = m
    · subst hk; exact .inr ⟨t, es, q⟩
    · exact resOk_obj g k (by omega) h2
theorem drop_cons {n : Nat} {x : AObj} (hn : nth .dead h n = x) (hlt : n < h.length) : h.drop n = x :: h.drop (n + 1) := by
  rw [List.drop_eq_getElem_cons hlt]
  congr 1
  rw [← hn, nth_getElem?, List.getElem?_eq_getElem hlt]; rfl
theorem takeRes_ok {L : List Ly} {rs0 : List AV} (LK : LOk P L) (hL : C4.L = L) (K : Keep C3 C4) : ∀ {ks : List RK} {rs : List AV} {i m j : Nat} {hh : List AObj} {xs : List Value}, ResOk L r2 (m + j) ks rs → (∀ k, nth .u rs0 (i + k) = nth .u rs k) → LRel C3 r2 rs xs →
    (takeRes L r2 ks rs0 i m j hh).2 = hh ++ r2.drop (m + j) ∧
    ((∀ k, m + j ≤ k → k < r2.length → nth .dead h4 (hh.length + (k - (m + j))) = nth .dead r2 k ∧ hh.length + (k - (m + j)) < h4.length ∧ C4.mu (hh.length + (k - (m + j))) = C3.mu k ∧ C4.kap (hh.length + (k - (m + j))) = C3.kap k) → LRel C4 h4 (takeRes L r2 ks rs0 i m j hh).1 xs)
  | [], rs, i, m, j, hh, xs, hr, hi, hx => by
    obtain ⟨rfl, h2⟩ := hr
    simp only [takeRes]
    refine ⟨?_, fun _ => by simpa only [LRel] using hx⟩
    rw [h2, List.drop_length, List.append_nil]
  | .v t :: ks, rs, i, m, j, hh, xs, hr, hi, hx => by
    obtain ⟨r, rs', rfl, hk, hok, hsh, g⟩ := hr
    simp only [LRel] at hx
    obtain ⟨x, xs', rfl, x1, x2⟩ := hx
    have hi' : ∀ k, nth .u rs0 (i + 1 + k) = nth .u rs' k := fun k => by have := hi (k + 1); simp only [nth] at this; rw [← this]; congr 1; omega
    obtain ⟨g1, g2⟩ := takeRes_ok LK hL K (hh := hh) g hi' x2
    have h0r := hi 0
    simp only [Nat.add_zero, nth] at h0r
    simp only [takeRes]
    refine ⟨g1, fun hf => ?_⟩
    simp only [LRel]
    refine ⟨x, xs', rfl, ?_, g2 hf⟩
    rw [h0r]
    obtain ⟨ii, z, Tt⟩ := LK.ty hk
    exact packed_norm Tt (flat_vrel K (okRow_flat hok (shaped_iff hsh)) x1) hok (shaped_iff hsh)
  | .own t :: ks, rs, i, m, j, hh, xs, hr, hi, hx => by
    obtain ⟨rs', e, rows, c, fz, rfl, hk, hob, g⟩ := hr
    have hlt : m + j < r2.length := by have := resOk_le g; omega
    simp only [LRel] at hx
    obtain ⟨x, xs', rfl, x1, x2⟩ := hx
    have hi' : ∀ k, nth .u rs0 (i + 1 + k) = nth .u rs' k := fun k => by have := hi (k + 1); simp only [nth] at this; rw [← this]; congr 1; omega
    obtain ⟨g1, g2⟩ := takeRes_ok LK hL K (j := j + 1) (hh := hh ++ [.arr e rows c 0 fz]) g hi' x2
    simp only [takeRes, hob, hk, AObj.toRows, AObj.toC, AObj.toFz]
    refine ⟨?_, fun hf => ?_⟩
    · rw [g1, drop_cons hob hlt]; simp [Nat.add_assoc]
    · simp only [LRel]
      obtain ⟨f1, f2, f3, f4⟩ := hf (m + j) (Nat.le_refl _) hlt
      simp only [Nat.sub_self, Nat.add_zero] at f1 f2 f3 f4
      refine ⟨x, xs', rfl, ?_, g2 fun k hk1 hk2 => ?_⟩
      · obtain ⟨_, ad, q1, q2, q3, q4⟩ := own_value hob x1
        have h1 := x1
        simp only [VRel, RefOk] at h1
        exact own_any (w' := 0) f2 (f1.trans hob) h1.1 ⟨ad, by rw [f4]; exact q1, q2, by rw [f3]; exact q3, by rw [f4]; exact q4⟩
      · have := hf k (by omega) hk2
        rw [List.length_append, List.length_singleton, show hh.length + 1 + (k - (m + (j + 1))) = hh.length + (k - (m + j)) by omega]
        exact this
  | .mp t :: ks, rs, i, m, j, hh, xs, hr, hi, hx => by
    obtain ⟨rs', es, rfl, hob, g⟩ := hr
    have hlt : m + j < r2.length := by have := resOk_le g; omega
    simp only [LRel] at hx
    obtain ⟨x, xs', rfl, x1, x2⟩ := hx
    have hi' : ∀ k, nth .u rs0 (i + 1 + k) = nth .u rs' k := fun k => by have := hi (k + 1); simp only [nth] at this; rw [← this]; congr 1; omega
    obtain ⟨g1, g2⟩ := takeRes_ok LK hL K (j := j + 1) (hh := hh ++ [.mp t es]) g hi' x2
    simp only [takeRes, hob, AObj.toEnts]
    refine ⟨?_, fun hf => ?_⟩
    · rw [g1, drop_cons hob hlt]; simp [Nat.add_assoc]
    · simp only [LRel]
      obtain ⟨f1, f2, f3, f4⟩ := hf (m + j) (Nat.le_refl _) hlt
      simp only [Nat.sub_self, Nat.add_zero] at f1 f2 f3 f4
      refine ⟨x, xs', rfl, ?_, g2 fun k hk1 hk2 => ?_⟩
      · simp only [VRel, RefOk, hob] at x1
        simp only [VRel, RefOk, f1, hob, f3]
        exact ⟨x1.1, f2, x1.2.2⟩
      · have := hf k (by omega) hk2
        rw [List.length_append, List.length_singleton, show hh.length + 1 + (k - (m + (j + 1))) = hh.length + (k - (m + j)) by omega]
        exact this
theorem backObjs_get {L : List Ly} : ∀ {os : List Nat} {hh : List AObj} {j : Nat}, noDup os = true → (∀ i, i < os.length → nth 0 os i < hh.length) → (backObjs L hh os r2 j).length = hh.length ∧
    (∀ i, i < os.length → nth .dead (backObjs L hh os r2 j) (nth 0 os i) = backObj L (nth .dead hh (nth 0 os i)) (nth .dead r2 (j + i))) ∧ (∀ k, (∀ i, i < os.length → nth 0 os i ≠ k) → nth .dead (backObjs L hh os r2 j) k = nth .dead hh k)
  | [], hh, j, _, _ => ⟨rfl, fun i hi => by simp at hi, fun k _ => rfl⟩
  | o :: os, hh, j, hd, hlt => by
    have hd' : noDup os = true := by simp only [noDup, Bool.and_eq_true] at hd; exact hd.2
    have ho : o < hh.length := by have := hlt 0 (by simp); simpa only [nth] using this
    have hne : ∀ i, i < os.length → nth 0 os i ≠ o := fun i hi hq => by
      have := noDup_inj hd (i + 1) 0 (by simpa using hi) (by simp) (by simpa only [nth] using hq)
      omega
    obtain ⟨g1, g2, g3⟩ := backObjs_get (L := L) (hh := upd hh o (backObj L (nth .dead hh o) (nth .dead r2 j))) (j := j + 1) hd' (fun i hi => by rw [upd_length]; have := hlt (i + 1) (by simpa using hi); simpa only [nth] using this)
    simp only [backObjs]
    refine ⟨by rw [g1, upd_length], fun i hi => ?_, fun k hk => ?_⟩
    · cases i with
      | zero =>
        simp only [nth, Nat.add_zero]
        rw [g3 o hne, nth_upd, if_pos ⟨rfl, ho⟩]
      | succ i =>
        simp only [nth]
        have hi' : i < os.length := by simpa using hi
        rw [g2 i hi', nth_upd, if_neg (fun hq => hne i hi' hq.1)]
        congr 2; omega
    · have h0 := hk 0 (by simp)
      simp only [nth] at h0
      rw [g3 k (fun i hi => by have := hk (i + 1) (by simpa using hi); simpa only [nth] using this), nth_upd, if_neg (fun hq => h0 hq.1.symm)]
end
end Go.Ev
/- The engine, part 29: what was handed over, behind the call. -/
namespace Go.Ev
open Go

def threeOk : AObj → AObj → AObj → Prop
  | .box _ _, .box _ _, .box _ _ => True
  | .arr e rows c w fz, .arr e' rows' c' w' fz', .arr e'' rows'' c'' w'' fz'' => w' = 0 ∧ w'' = w ∧ e' = e ∧ e'' = e ∧ rows'' = rows' ∧ c'' = c'
  | .mp _ _, .mp _ _, .mp _ _ => True
  | _, _, _ => False
def twoOk : AObj → AObj → Prop
  | .dead, x => x = .dead
  | .arr _ _ _ w _, .arr _ _ _ w'' _ => w'' = w
  | .box _ _, .box _ _ => True
  | .mp _ _, .mp _ _ => True
  | _, _ => False
structure Ret (C1 : Cx) (h1 : List AObj) (ids : List Nat) (C3 : Cx) (r2 : List AObj) (C4 : Cx) (h4 : List AObj) : Prop where
  keep : Keep C3 C4
  len : h1.length ≤ h4.length
  same : ∀ i o, idxOf o ids 0 = some i → C4.mu o = C3.mu i ∧ C4.kap o = C3.kap i ∧ threeOk (nth .dead h1 o) (nth .dead r2 i) (nth .dead h4 o)
  other : ∀ o, o < h1.length → twoOk (nth .dead h1 o) (nth .dead h4 o)

section
variable {P : Program} {C1 C3 C4 : Cx} {h1 r2 h4 : List AObj} {ids : List Nat}

theorem ref_back (R : Ret C1 h1 ids C3 r2 C4 h4) {c cR d : AV} {u v : Value} {o : Nat} (hc : refIdx c = some o) (h1r : VRel C1 h1 c u) (hr : ren h1 ids c = some cR) (hs : refSame cR d = true) (hd : VRel C3 r2 d v) : VRel C4 h4 c v := by
  have hes : ∀ e, C4.es e = C3.es e := fun e => by simp only [Cx.es, R.keep.L]
  have hlt := ref_lt ((vrel_ref hc).1 h1r) hc
  have hlt4 : o < h4.length := by have := R.len; omega
  cases c <;> simp only [refIdx, Option.some.injEq, reduceCtorEq] at hc <;> subst hc
  case own oo ver =>
    simp only [ren] at hr
    split at hr
    · rename_i e rows c w fz hn
      simp only [cond_eq_ite, nbeq] at hr
      split at hr
      · rename_i hw; subst hw
        simp only [Option.bind_eq_some_iff, Option.some.injEq] at hr
        obtain ⟨i, hi, rfl⟩ := hr
        cases d <;> simp [refSame] at hs
        obtain ⟨e1, e2⟩ := hs
        subst e1; subst e2
        obtain ⟨m1, m2, m3⟩ := R.same i oo hi
        rw [hn] at m3
        simp only [VRel, RefOk] at hd ⊢
        obtain ⟨d1, d2, d3⟩ := hd
        refine ⟨d1, hlt4, ?_⟩
        cases hz : nth .dead r2 i <;> cases hq : nth .dead h4 oo <;> rw [hz, hq] at m3 <;> simp only [threeOk] at m3
        obtain ⟨rfl, rfl, rfl, rfl, rfl, rfl⟩ := m3
        rw [hz] at d3
        refine ⟨Nat.le_refl _, fun _ => ?_⟩
        obtain ⟨ad, q1, q2, q3, q4⟩ := d3.2 rfl
        exact ⟨ad, by rw [m2]; exact q1, q2, by rw [m1]; exact q3, by rw [m2]; exact q4⟩
      · simp only [Option.some.injEq] at hr; subst hr; simp [refSame] at hs
    · simp only [Option.some.injEq] at hr; subst hr; simp [refSame] at hs
  case sl oo ver off len =>
    simp only [ren] at hr
    split at hr
    · simp only [cond_eq_ite, nbeq] at hr
      split at hr
      · simp only [Option.bind_eq_some_iff, Option.some.injEq] at hr
        obtain ⟨i, hi, rfl⟩ := hr
        simp [refSame] at hs
      · simp only [Option.some.injEq] at hr; subst hr; simp [refSame] at hs
    · simp only [Option.some.injEq] at hr; subst hr; simp [refSame] at hs
  case ptr oo ver a b =>
    simp only [ren] at hr
    split at hr
    · rename_i e row hn
      simp only [Option.bind_eq_some_iff, Option.some.injEq] at hr
      obtain ⟨i, hi, rfl⟩ := hr
      cases d <;> simp [refSame] at hs
      obtain ⟨⟨⟨e1, e2⟩, e3⟩, e4⟩ := hs
      subst e1; subst e2; subst e3; subst e4
      obtain ⟨m1, m2, m3⟩ := R.same i oo hi
      rw [hn] at m3
      simp only [VRel, RefOk] at hd ⊢
      obtain ⟨d1, d2, d3⟩ := hd
      refine ⟨d1, hlt4, ?_⟩
      cases hz : nth .dead r2 i <;> cases hq : nth .dead h4 oo <;> rw [hz, hq] at m3 <;> simp only [threeOk] at m3
      rw [hz] at d3
      simp only at d3 ⊢
      rw [m1]; exact d3
    · rename_i e rows c w fz hn
      simp only [cond_eq_ite, nbeq] at hr
      split at hr
      · rename_i hw; subst hw
        simp only [Option.bind_eq_some_iff, Option.some.injEq] at hr
        obtain ⟨i, hi, rfl⟩ := hr
        cases d <;> simp [refSame] at hs
        obtain ⟨⟨⟨e1, e2⟩, e3⟩, e4⟩ := hs
        subst e1; subst e2; subst e3; subst e4
        obtain ⟨m1, m2, m3⟩ := R.same i oo hi
        rw [hn] at m3
        simp only [VRel, RefOk] at hd ⊢
        obtain ⟨d1, d2, d3⟩ := hd
        refine ⟨d1, hlt4, ?_⟩
        cases hz : nth .dead r2 i <;> cases hq : nth .dead h4 oo <;> rw [hz, hq] at m3 <;> simp only [threeOk] at m3
        obtain ⟨rfl, rfl, rfl, rfl, rfl, rfl⟩ := m3
        rw [hz] at d3
        refine ⟨Nat.le_refl _, fun _ => ?_⟩
        have := d3.2 rfl
        exact ⟨this.1, this.2.1, by rw [m1, hes]; exact this.2.2⟩
      · simp only [Option.some.injEq] at hr; subst hr; simp [refSame] at hs
    · simp only [Option.some.injEq] at hr; subst hr; simp [refSame] at hs
  case map oo =>
    simp only [ren, Option.bind_eq_some_iff, Option.some.injEq] at hr
    obtain ⟨i, hi, rfl⟩ := hr
    cases d <;> simp [refSame] at hs
    subst hs
    obtain ⟨m1, m2, m3⟩ := R.same i oo hi
    simp only [VRel, RefOk] at hd h1r ⊢
    obtain ⟨d1, d2, d3⟩ := hd
    refine ⟨d1, hlt4, ?_⟩
    cases hw : nth .dead h1 oo <;> cases hz : nth .dead r2 i <;> cases hq : nth .dead h4 oo <;> rw [hw, hz, hq] at m3 <;> simp only [threeOk] at m3
    · rw [hw] at h1r; exact h1r.2.2.elim
    · rw [hw] at h1r; exact h1r.2.2.elim
    · rw [hz] at d3
      simp only at d3 ⊢
      rw [m1]; exact d3
theorem caps_back (R : Ret C1 h1 ids C3 r2 C4 h4) : ∀ {cs crs ds : List AV} {us vs : List Value}, LRel C1 h1 cs us → renL h1 ids cs = some crs → refSame.same crs ds = true → LRel C3 r2 ds vs → LRel C4 h4 cs vs
  | [], crs, ds, us, vs, h1r, hr, hs, hd => by
    simp only [renL, Option.some.injEq] at hr
    subst hr
    cases ds with
    | nil => simpa only [LRel] using hd
    | cons => simp [refSame.same] at hs
  | c :: cs, crs, ds, us, vs, h1r, hr, hs, hd => by
    simp only [renL, Option.bind_eq_some_iff, Option.some.injEq] at hr
    obtain ⟨c', hc, cs', hcs, rfl⟩ := hr
    simp only [LRel] at h1r
    obtain ⟨u, us', rfl, u1, u2⟩ := h1r
    cases ds with
    | nil => simp [refSame.same] at hs
    | cons d ds =>
      simp only [LRel] at hd ⊢
      obtain ⟨v, vs', rfl, v1, v2⟩ := hd
      have hsplit : refSame c' d = true ∧ refSame.same cs' ds = true ∧ ((∃ o w i j, c' = .ptr o w i j) ∨ ∃ o, c' = .map o) := by
        unfold refSame.same at hs
        split at hs
        · rename_i he _; cases he
        · rename_i o w i j cs1 o' w' i' j' ds1 he he'
          simp only [List.cons.injEq] at he he'
          obtain ⟨rfl, rfl⟩ := he
          obtain ⟨rfl, rfl⟩ := he'
          simp only [Bool.and_eq_true] at hs
          exact ⟨by simp only [refSame, Bool.and_eq_true]; exact hs.1, hs.2, .inl ⟨_, _, _, _, rfl⟩⟩
        · rename_i o cs1 o' ds1 he he'
          simp only [List.cons.injEq] at he he'
          obtain ⟨rfl, rfl⟩ := he
          obtain ⟨rfl, rfl⟩ := he'
          simp only [Bool.and_eq_true] at hs
          exact ⟨by simp only [refSame]; exact hs.1, hs.2, .inr ⟨_, rfl⟩⟩
        · cases hs
      obtain ⟨k1, k2, k3⟩ := hsplit
      have hidx : ∃ o, refIdx c = some o := by
        cases c with
        | own o w => exact ⟨o, rfl⟩
        | sl o w i j => exact ⟨o, rfl⟩
        | ptr o w i j => exact ⟨o, rfl⟩
        | map o => exact ⟨o, rfl⟩
        | agg cs => simp only [ren, Option.bind_eq_some_iff, Option.some.injEq] at hc; obtain ⟨_, _, rfl⟩ := hc; simp at k3
        | tup cs => simp only [ren, Option.bind_eq_some_iff, Option.some.injEq] at hc; obtain ⟨_, _, rfl⟩ := hc; simp at k3
        | func f cs => simp only [ren, Option.bind_eq_some_iff, Option.some.injEq] at hc; obtain ⟨_, _, rfl⟩ := hc; simp at k3
        | pp tg cs =>
          simp only [ren, Option.some.injEq] at hc
          cases hp : allPlain cs <;> rw [hp] at hc <;> simp only [cond_false, cond_true] at hc <;> subst hc <;> simp at k3
        | u => simp only [ren, plain, cond_false, Option.some.injEq] at hc; subst hc; simp at k3
        | iface t y => simp only [ren, plain, cond_false, Option.some.injEq] at hc; subst hc; simp at k3
        | int => simp only [ren, plain, cond_true, Option.some.injEq] at hc; subst hc; simp at k3
        | bool => simp only [ren, plain, cond_true, Option.some.injEq] at hc; subst hc; simp at k3
        | str => simp only [ren, plain, cond_true, Option.some.injEq] at hc; subst hc; simp at k3
        | ps => simp only [ren, plain, cond_true, Option.some.injEq] at hc; subst hc; simp at k3
        | nilptr => simp only [ren, plain, cond_true, Option.some.injEq] at hc; subst hc; simp at k3
        | nilmap => simp only [ren, plain, cond_true, Option.some.injEq] at hc; subst hc; simp at k3
        | niliface => simp only [ren, plain, cond_true, Option.some.injEq] at hc; subst hc; simp at k3
      obtain ⟨o, ho⟩ := hidx
      exact ⟨v, vs', rfl, ref_back R ho u1 hc k1 v1, caps_back R u2 hcs k2 v2⟩
/-- a reference that has grown stale -/
theorem stale_back (R : Ret C1 h1 ids C3 r2 C4 h4) {c : AV} {u v : Value} {o : Nat} (hc : refIdx c = some o) (h1r : VRel C1 h1 c u) (hr : ren h1 ids c = some .u) (hv : OneV v) : VRel C4 h4 c v := by
  have hlt := ref_lt ((vrel_ref hc).1 h1r) hc
  have hlt4 : o < h4.length := by have := R.len; omega
  have h2 := R.other o hlt
  cases c <;> simp only [refIdx, Option.some.injEq, reduceCtorEq] at hc <;> subst hc
  case map oo => simp [ren, Option.bind_eq_some_iff] at hr
  all_goals
    simp only [VRel, RefOk] at h1r ⊢
    refine ⟨hv, hlt4, ?_⟩
    obtain ⟨_, _, h3⟩ := h1r
    revert h2 h3 hr
    simp only [ren]
    cases nth .dead h1 _ <;> cases nth .dead h4 _ <;> simp only [twoOk, reduceCtorEq, false_imp_iff, imp_true_iff, implies_true, imp_self]
  · rename_i e rows c w fz e' rows' c' w' fz'
    intro hr h2 h3
    subst h2
    refine ⟨h3.1, fun hq => ?_⟩
    rw [nbeq.2 hq] at hr; simp [Option.bind_eq_some_iff] at hr
  · rename_i e rows c w fz e' rows' c' w' fz'
    intro hr h2 h3
    subst h2
    refine ⟨h3.1, fun hq => ?_⟩
    rw [nbeq.2 hq] at hr; simp [Option.bind_eq_some_iff] at hr
  · intro hr; simp [Option.bind_eq_some_iff] at hr
  · rename_i e rows c w fz e' rows' c' w' fz'
    intro hr h2 h3
    subst h2
    refine ⟨h3.1, fun hq => ?_⟩
    rw [nbeq.2 hq] at hr; simp [Option.bind_eq_some_iff] at hr
end
end Go.Ev
/- The engine, part 30: a call. -/
namespace Go.Ev
open Go

section
variable {P : Program} {C C1 C3 C4 : Cx} {h h' h1 r2 h4 hs : List AObj} {ids : List Nat} {nt : Nat} {E : Env}

theorem ren_ref {c cR : AV} {o : Nat} (hc : refIdx c = some o) (hr : ren h1 ids c = some cR) : isRef cR = true ∨ cR = .u := by
  cases c <;> simp only [refIdx, Option.some.injEq, reduceCtorEq] at hc <;> subst hc
  case map oo =>
    simp only [ren, Option.bind_eq_some_iff, Option.some.injEq] at hr
    obtain ⟨i, hi, rfl⟩ := hr
    exact .inl rfl
  all_goals
    simp only [ren] at hr
    split at hr
    all_goals first
      | (simp only [Option.some.injEq] at hr; exact .inr hr.symm)
      | (simp only [Option.bind_eq_some_iff, Option.some.injEq] at hr; obtain ⟨i, hi, rfl⟩ := hr; exact .inl rfl)
      | (simp only [cond_eq_ite] at hr
         split at hr
         · simp only [Option.bind_eq_some_iff, Option.some.injEq] at hr; obtain ⟨i, hi, rfl⟩ := hr; exact .inl rfl
         · simp only [Option.some.injEq] at hr; exact .inr hr.symm)
theorem ren_notRef {c cR : AV} (hc : isRef c = false) (hr : ren h1 ids c = some cR) : isRef cR = false := by
  cases c with
  | own o w => simp [isRef] at hc
  | sl o w i j => simp [isRef] at hc
  | ptr o w i j => simp [isRef] at hc
  | map o => simp [isRef] at hc
  | agg cs => simp only [ren, Option.bind_eq_some_iff, Option.some.injEq] at hr; obtain ⟨_, _, rfl⟩ := hr; rfl
  | tup cs => simp only [ren, Option.bind_eq_some_iff, Option.some.injEq] at hr; obtain ⟨_, _, rfl⟩ := hr; rfl
  | func f cs =>
    cases cs with
    | nil => simp only [ren, renL, Option.bind_some, Option.some.injEq] at hr; subst hr; rfl
    | cons => simp [isRef] at hc
  | pp tg cs =>
    simp only [ren, Option.some.injEq] at hr
    cases hp : allPlain cs <;> rw [hp] at hr <;> simp only [cond_false, cond_true] at hr <;> subst hr <;> rfl
  | u => simp only [ren, plain, cond_false, Option.some.injEq] at hr; subst hr; rfl
  | iface t y => simp only [ren, plain, cond_false, Option.some.injEq] at hr; subst hr; rfl
  | int => simp only [ren, plain, cond_true, Option.some.injEq] at hr; subst hr; rfl
  | bool => simp only [ren, plain, cond_true, Option.some.injEq] at hr; subst hr; rfl
  | str => simp only [ren, plain, cond_true, Option.some.injEq] at hr; subst hr; rfl
  | ps => simp only [ren, plain, cond_true, Option.some.injEq] at hr; subst hr; rfl
  | nilptr => simp only [ren, plain, cond_true, Option.some.injEq] at hr; subst hr; rfl
  | nilmap => simp only [ren, plain, cond_true, Option.some.injEq] at hr; subst hr; rfl
  | niliface => simp only [ren, plain, cond_true, Option.some.injEq] at hr; subst hr; rfl
theorem back_el (R : Ret C1 h1 ids C3 r2 C4 h4) {k : CK} {c cR d : AV} {u v : Value} (h1r : VRel C1 h1 c u) (hr : ren h1 ids c = some cR) (hb : (bif isRef cR then refSame cR d else okCell k d) = true) (hd : VRel C3 r2 d v) :
    VRel C4 h4 (bif isRef c then c else normCell k d) v := by
  cases hc : isRef c
  · rw [ren_notRef hc hr] at hb
    exact vrel_norm hb (plain_vrel R.keep (okCell_plain hb) hd)
  · simp only [cond_true]
    have viaIdx : ∀ o, refIdx c = some o → VRel C4 h4 c v := fun o ho => by
      rcases ren_ref ho hr with hq | rfl
      · rw [hq] at hb; exact ref_back R ho h1r hr hb hd
      · have hb : okCell k d = true := hb
        obtain ⟨q1, _, q3⟩ := okCell_one hb hd
        exact stale_back R ho h1r hr ⟨q1, q3⟩
    cases c <;> simp [isRef] at hc
    case own o w => exact viaIdx o rfl
    case sl o w i j => exact viaIdx o rfl
    case ptr o w i j => exact viaIdx o rfl
    case map o => exact viaIdx o rfl
    case func f cs =>
      cases cs with
      | nil => simp [isRef] at hc
      | cons c cs =>
        simp only [ren, Option.bind_eq_some_iff, Option.some.injEq] at hr
        obtain ⟨crs, hr, rfl⟩ := hr
        have hne : ∃ x xs, crs = x :: xs := by
          simp only [renL, Option.bind_eq_some_iff, Option.some.injEq] at hr
          obtain ⟨a, _, b, _, rfl⟩ := hr
          exact ⟨a, b, rfl⟩
        obtain ⟨x, xs, rfl⟩ := hne
        have hb : refSame (.func f (x :: xs)) d = true := hb
        cases f with
        | none => cases d <;> simp [refSame] at hb
        | some f =>
          cases d with
          | func g ds =>
            cases g with
            | none => simp [refSame] at hb
            | some g =>
              simp only [refSame, Bool.and_eq_true, nbeq] at hb
              obtain ⟨rfl, hb2⟩ := hb
              simp only [VRel] at h1r hd ⊢
              obtain ⟨us, _, u2⟩ := h1r
              obtain ⟨vs, v1, v2⟩ := hd
              exact ⟨vs, v1, caps_back R u2 hr hb2 v2⟩
          | _ => simp [refSame] at hb
theorem backRow_ok (R : Ret C1 h1 ids C3 r2 C4 h4) {r : Row} : ∀ {ks : List CK} {cs crs ds : List AV} {us vs : List Value} {j : Nat}, LRel C1 h1 cs us → renL h1 ids cs = some crs → okBack ks crs ds = true → LRel C3 r2 ds vs → (∀ i, nth .u r (j + i) = nth .u ds i) → LRel C4 h4 (backRow ks cs r j) vs
  | ks, [], crs, ds, us, vs, j, h1r, hr, hb, hd, hi => by
    simp only [renL, Option.some.injEq] at hr
    subst hr
    cases ds with
    | nil => simpa only [backRow, LRel] using hd
    | cons => simp [okBack] at hb
  | ks, c :: cs, crs, ds, us, vs, j, h1r, hr, hb, hd, hi => by
    simp only [renL, Option.bind_eq_some_iff, Option.some.injEq] at hr
    obtain ⟨c', hc, cs', hcs, rfl⟩ := hr
    simp only [LRel] at h1r
    obtain ⟨u, us', rfl, u1, u2⟩ := h1r
    cases ds with
    | nil => simp [okBack] at hb
    | cons d ds =>
      simp only [okBack, Bool.and_eq_true] at hb
      simp only [LRel] at hd
      obtain ⟨v, vs', rfl, v1, v2⟩ := hd
      have h0 := hi 0
      simp only [Nat.add_zero, nth] at h0
      simp only [backRow, LRel]
      refine ⟨v, vs', rfl, ?_, backRow_ok R u2 hcs hb.2 v2 fun i => by have := hi (i + 1); simp only [nth] at this; rw [← this]; congr 1; omega⟩
      rw [h0]
      exact back_el R u1 hc hb.1 v1
theorem backRow_length : ∀ {ks : List CK} {cs : List AV} {r : Row} {j : Nat}, (backRow ks cs r j).length = cs.length
  | _, [], _, _ => rfl
  | ks, c :: cs, r, j => by simp [backRow, backRow_length (cs := cs)]
theorem okBack_length : ∀ {ks : List CK} {cs ds : List AV}, okBack ks cs ds = true → ds.length = cs.length
  | _, [], [], _ => rfl
  | _, [], _ :: _, hb => by simp [okBack] at hb
  | _, _ :: _, [], hb => by simp [okBack] at hb
  | ks, c :: cs, d :: ds, hb => by simp only [okBack, Bool.and_eq_true] at hb; simp [okBack_length hb.2]
theorem renL_length : ∀ {cs cs' : List AV}, renL h1 ids cs = some cs' → cs'.length = cs.length
  | [], cs', hr => by simp only [renL, Option.some.injEq] at hr; rw [← hr]
  | c :: cs, cs', hr => by
    simp only [renL, Option.bind_eq_some_iff, Option.some.injEq] at hr
    obtain ⟨a, _, b, hb, rfl⟩ := hr
    simp [renL_length hb]
theorem oneOf_rel {rs : List AV} {xs : List Value} (hr : LRel C h rs xs) : VRel C h (oneOf rs) (oneV xs) := by
  match rs, xs, hr with
  | [], xs, hr => simp only [LRel] at hr; subst hr; simp only [oneOf, oneV, VRel]; exact ⟨[], rfl, by simp only [LRel]⟩
  | [r], xs, hr =>
    simp only [LRel] at hr
    obtain ⟨v, vs, rfl, h1, rfl⟩ := hr
    exact h1
  | r :: r' :: rs, xs, hr =>
    have hl := lrel_length hr
    match xs, hl with
    | x :: y :: zs, _ =>
      simp only [oneOf, oneV, VRel]
      exact ⟨x :: y :: zs, rfl, hr⟩
end
end Go.Ev
/- The engine, part 31: calls are sound. -/
namespace Go.Ev
open Go

section
variable {P : Program} {C C1 C3 C4 : Cx} {h h' h1 r2 h4 hs : List AObj} {ids : List Nat} {nt : Nat} {E : Env}

def Cx.back (C1 : Cx) (n : Nat) (ids : List Nat) (C3 : Cx) : Cx :=
  { C3 with mu := fun k => if k < n then (match idxOf k ids 0 with | some i => C3.mu i | none => C1.mu k) else C3.mu (ids.length + (k - n)),
            kap := fun k => if k < n then (match idxOf k ids 0 with | some i => C3.kap i | none => C1.kap k) else C3.kap (ids.length + (k - n)) }
theorem idxOf_at (hd : noDup ids = true) {i : Nat} (hi : i < ids.length) : idxOf (nth 0 ids i) ids 0 = some i := by
  obtain ⟨i', h1⟩ := idxOf_some (ids := ids) 0 hi rfl
  obtain ⟨_, h2, h3⟩ := idxOf_ok h1
  simp only [Nat.sub_zero] at h2 h3
  rw [h1, noDup_inj hd i' i h2 hi h3]
theorem idxOf_none {k : Nat} (h0 : idxOf k ids 0 = none) : ∀ i, i < ids.length → nth 0 ids i ≠ k := fun i hi hq => by
  obtain ⟨i', h1⟩ := idxOf_some (ids := ids) 0 hi hq
  rw [h0] at h1; cases h1
/-- an object handed over: ahead of the call, in the callee ahead and behind -/
theorem over_obj (S3 : Step nt (C1.ren ids) hs C3 r2) (hr : renObjs h1 ids ids = some hs) {L : List Ly} (op : okPasses L hs r2 = true) {i : Nat} (hi : i < ids.length) :
    C3.mu i = C1.mu (nth 0 ids i) ∧
    ((∃ e row rowR row', nth .dead h1 (nth 0 ids i) = .box e row ∧ renL h1 ids row = some rowR ∧ nth .dead r2 i = .box e row' ∧ okBack (ly L e).cells rowR row' = true) ∨
     (∃ e rows c w fz rows' fz', nth .dead h1 (nth 0 ids i) = .arr e rows c w fz ∧ nth .dead r2 i = .arr e rows' c 0 fz' ∧ rows'.length = rows.length ∧ C3.kap i = C1.kap (nth 0 ids i)) ∨
     (∃ t es es', nth .dead h1 (nth 0 ids i) = .mp t es ∧ nth .dead r2 i = .mp t es')) := by
  obtain ⟨hl, hg⟩ := renObjs_get hr
  have e1 := S3.ext.obj i (by omega)
  obtain ⟨_, e2⟩ := okPasses_get op i (by omega)
  have e3 := hg i hi
  cases hx : nth .dead h1 (nth 0 ids i) with
  | dead => rw [hx] at e3; simp [renObj] at e3
  | box e row =>
    rw [hx] at e3
    simp only [renObj, Option.bind_eq_some_iff, Option.some.injEq] at e3
    obtain ⟨rowR, q1, q2⟩ := e3
    rw [← q2] at e1 e2
    cases hz : nth .dead r2 i <;> rw [hz] at e1 e2 <;> simp [okPass] at e2
    obtain ⟨rfl, e2⟩ := e2
    exact ⟨e1, .inl ⟨e, row, rowR, _, rfl, q1, rfl, e2⟩⟩
  | arr e rows c w fz =>
    rw [hx] at e3
    simp only [renObj, Option.some.injEq] at e3
    rw [← e3] at e1 e2
    cases hz : nth .dead r2 i <;> rw [hz] at e1 e2 <;> simp [okPass] at e2
    obtain ⟨rfl, rfl⟩ := e2
    obtain ⟨_, e1⟩ := e1
    obtain ⟨q1, q2, q3, q4, q5⟩ := e1 rfl
    subst q3
    exact ⟨q4, .inr (.inl ⟨e, rows, _, w, fz, _, _, rfl, rfl, q2, q5⟩)⟩
  | mp t es =>
    rw [hx] at e3
    simp only [renObj, Option.some.injEq] at e3
    rw [← e3] at e1 e2
    cases hz : nth .dead r2 i <;> rw [hz] at e1 e2 <;> simp [okPass] at e2
    subst e2
    exact ⟨e1, .inr (.inr ⟨t, es, _, rfl, rfl⟩)⟩
theorem callA_ok (LK : LOk P E.L) (HC : CallOk P E) : CallAOk P E := by
  intro C h f args v h' vs hL H hr hv
  simp only [callA, Option.bind_eq_some_iff, Option.some.injEq, Prod.mk.injEq] at hv
  obtain ⟨⟨args1, h1⟩, hfz, args2, hren, hs, hobjs, ⟨rs, r2⟩, hcall, rfl, rfl⟩ := hv
  simp only at hren hobjs hcall ⊢
  obtain ⟨C1, w1, s1, H1, l1⟩ := frzArgs_ok (nt := E.nt) H hr hfz
  revert hren hobjs hcall
  generalize hids : reach h1 3 (refsL args1 []) = ids
  intro hren hobjs hcall
  cases hd : noDup ids
  · rw [hd] at hcall; simp at hcall
  rw [hd] at hcall
  simp only [cond_true] at hcall
  obtain ⟨hl, hg⟩ := renObjs_get hobjs
  have H2 := ren_hrel H1 hd hobjs
  have hL1 : C1.L = E.L := s1.ext.L.trans hL
  obtain ⟨hfn, hcalls⟩ := HC (C := C1.ren ids) hL1 H2 (renL_ok hobjs l1 hren) hcall
  refine ⟨hfn, ?_⟩
  rw [← w1]
  refine Calls.mono hcalls fun en w' he => ?_
  cases en with
  | panicked _ => exact he.elim
  | outgrown => exact he.elim
  | returned x =>
    obtain ⟨C3, xs, rfl, S3, H3, l3, rfl, ro, op⟩ := he
    have hL3 : C3.L = E.L := S3.ext.L.trans hL1
    have hlt : ∀ i, i < ids.length → nth 0 ids i < h1.length := fun i hi => ren_lt hobjs hi
    obtain ⟨b1, b2, b3⟩ := backObjs_get (L := E.L) (r2 := r2) (hh := h1) (j := 0) hd hlt
    rw [hl] at ro
    have hr2 : ids.length ≤ r2.length := resOk_le ro
    have K : Keep C3 (C1.back h1.length ids C3) := ⟨rfl, fun t b x hq => ⟨hq, rfl⟩⟩
    have K1 : Keep C1 (C1.back h1.length ids C3) := ⟨hL3.trans hL1.symm, fun t b x hq => S3.ext.fixed t b x hq⟩
    obtain ⟨t1, t2⟩ := takeRes_ok (C3 := C3) (C4 := C1.back h1.length ids C3) (h4 := (takeRes E.L r2 (sig E.F f).res rs 0 ids.length 0 (backObjs E.L h1 ids r2 0)).2) (rs0 := rs) (L := E.L) LK hL3 K (i := 0) (m := ids.length) (j := 0) (hh := backObjs E.L h1 ids r2 0) ro (fun k => by rw [Nat.zero_add]) l3
    simp only [Nat.add_zero] at t1 t2
    revert t1 t2
    generalize takeRes E.L r2 (sig E.F f).res rs 0 ids.length 0 (backObjs E.L h1 ids r2 0) = q
    intro t1 t2
    obtain ⟨q1, h4⟩ := q
    simp only at t1 t2 ⊢
    -- the new heap
    have hlen4 : h4.length = h1.length + (r2.length - ids.length) := by rw [t1, List.length_append, b1, List.length_drop]
    have hlow : ∀ k, k < h1.length → nth .dead h4 k = nth .dead (backObjs E.L h1 ids r2 0) k := fun k hk => by rw [t1, nth_append, if_pos (by omega)]
    have hin : ∀ i, i < ids.length → nth .dead h4 (nth 0 ids i) = backObj E.L (nth .dead h1 (nth 0 ids i)) (nth .dead r2 i) := fun i hi => by
      rw [hlow _ (hlt i hi), b2 i hi, Nat.zero_add]
    have hout : ∀ k, k < h1.length → idxOf k ids 0 = none → nth .dead h4 k = nth .dead h1 k := fun k hk hq => by rw [hlow k hk, b3 k (idxOf_none hq)]
    have hnew : ∀ j, nth .dead h4 (h1.length + j) = nth .dead r2 (ids.length + j) := fun j => by
      rw [t1, nth_append, b1, if_neg (by omega), nth_drop]; congr 1; omega
    have hmuI : ∀ i, i < ids.length → (C1.back h1.length ids C3).mu (nth 0 ids i) = C3.mu i ∧ (C1.back h1.length ids C3).kap (nth 0 ids i) = C3.kap i := fun i hi => by
      simp only [Cx.back, if_pos (hlt i hi), idxOf_at hd hi, and_self]
    have hmuO : ∀ k, k < h1.length → idxOf k ids 0 = none → (C1.back h1.length ids C3).mu k = C1.mu k ∧ (C1.back h1.length ids C3).kap k = C1.kap k := fun k hk hq => by
      simp only [Cx.back, if_pos hk, hq, and_self]
    have hmuN : ∀ j, (C1.back h1.length ids C3).mu (h1.length + j) = C3.mu (ids.length + j) ∧ (C1.back h1.length ids C3).kap (h1.length + j) = C3.kap (ids.length + j) := fun j => by
      simp only [Cx.back, if_neg (show ¬ h1.length + j < h1.length by omega), Nat.add_sub_cancel_left, and_self]
    have hcase : ∀ k, k < h1.length → (∃ i, i < ids.length ∧ nth 0 ids i = k ∧ idxOf k ids 0 = some i) ∨ idxOf k ids 0 = none := fun k hk => by
      cases hq : idxOf k ids 0 with
      | none => exact .inr rfl
      | some i =>
        obtain ⟨_, g1, g2⟩ := idxOf_ok hq
        simp only [Nat.sub_zero] at g1 g2
        exact .inl ⟨i, g1, g2, rfl⟩
    have over := fun i (hi : i < ids.length) => over_obj S3 hobjs op hi
    have R : Ret C1 h1 ids C3 r2 (C1.back h1.length ids C3) h4 := by
      refine ⟨K, by omega, fun i o hio => ?_, fun k hk => ?_⟩
      · obtain ⟨_, g1, g2⟩ := idxOf_ok hio
        simp only [Nat.sub_zero] at g1 g2
        subst g2
        refine ⟨(hmuI i g1).1, (hmuI i g1).2, ?_⟩
        rw [hin i g1]
        obtain ⟨_, g⟩ := over i g1
        rcases g with ⟨e, row, rowR, row', p1, p2, p3, p4⟩ | ⟨e, rows, c, w, fz, rows', fz', p1, p2, p3, p4⟩ | ⟨t, es, es', p1, p2⟩
        · rw [p1, p3]; trivial
        · rw [p1, p2]; exact ⟨rfl, rfl, rfl, rfl, rfl, rfl⟩
        · rw [p1, p2]; trivial
      · rcases hcase k hk with ⟨i, g1, g2, g3⟩ | hq
        · subst g2
          rw [hin i g1]
          obtain ⟨_, g⟩ := over i g1
          rcases g with ⟨e, row, rowR, row', p1, p2, p3, p4⟩ | ⟨e, rows, c, w, fz, rows', fz', p1, p2, p3, p4⟩ | ⟨t, es, es', p1, p2⟩
          · rw [p1, p3]; trivial
          · rw [p1, p2]; rfl
          · rw [p1, p2]; trivial
        · rw [hout k hk hq]
          cases nth .dead h1 k <;> first | rfl | trivial
    have E4 : Ext C1 h1 (C1.back h1.length ids C3) h4 := ext_of K1.L K1.fixed (by omega) fun k hk => by
      rcases hcase k hk with ⟨i, g1, g2, g3⟩ | hq
      · subst g2
        rw [hin i g1]
        obtain ⟨gm, g⟩ := over i g1
        obtain ⟨m1, m2⟩ := hmuI i g1
        rcases g with ⟨e, row, rowR, row', p1, p2, p3, p4⟩ | ⟨e, rows, c, w, fz, rows', fz', p1, p2, p3, p4⟩ | ⟨t, es, es', p1, p2⟩
        · rw [p1, p3]; exact m1.trans gm
        · rw [p1, p2]; exact ⟨Nat.le_refl _, fun _ => ⟨rfl, p3, rfl, m1.trans gm, m2.trans p4⟩⟩
        · rw [p1, p2]; exact m1.trans gm
      · rw [hout k hk hq]; exact objOk_self _ (hmuO k hk hq).1 (hmuO k hk hq).2
    have hliveI : ∀ i, i < ids.length → live (nth .dead h4 (nth 0 ids i)) = true → live (nth .dead h1 (nth 0 ids i)) = true ∧ live (nth .dead r2 i) = true := fun i hi hl' => by
      rw [hin i hi] at hl'
      obtain ⟨gm, g⟩ := over i hi
      rcases g with ⟨e, row, rowR, row', p1, p2, p3, p4⟩ | ⟨e, rows, c, w, fz, rows', fz', p1, p2, p3, p4⟩ | ⟨t, es, es', p1, p2⟩
      · rw [p1, p3]; exact ⟨rfl, rfl⟩
      · rw [p1, p2] at hl' ⊢; exact ⟨hl', hl'⟩
      · rw [p1, p2]; exact ⟨rfl, rfl⟩
    have hliveS : ∀ i, i < hs.length → live (nth .dead hs i) = true → live (nth .dead h1 (nth 0 ids i)) = true := fun i hi hl' => by
      rw [hl] at hi; rw [← renObj_live (hg i hi)]; exact hl'
    -- what lives at the end is an old object, or a new one
    have src : ∀ k, k < h4.length → live (nth .dead h4 k) = true → (k < h1.length ∧ live (nth .dead h1 k) = true ∧ (C1.back h1.length ids C3).mu k = C1.mu k) ∨ (∃ j, k = h1.length + j ∧ ids.length + j < r2.length ∧ live (nth .dead r2 (ids.length + j)) = true ∧ (C1.back h1.length ids C3).mu k = C3.mu (ids.length + j)) := fun k hk hl' => by
      by_cases hk1 : k < h1.length
      · refine .inl ⟨hk1, ?_⟩
        rcases hcase k hk1 with ⟨i, g1, g2, g3⟩ | hq
        · subst g2
          exact ⟨(hliveI i g1 hl').1, (hmuI i g1).1.trans (over i g1).1⟩
        · rw [hout k hk1 hq] at hl'; exact ⟨hl', (hmuO k hk1 hq).1⟩
      · obtain ⟨j, rfl⟩ : ∃ j, k = h1.length + j := ⟨k - h1.length, by omega⟩
        rw [hnew j] at hl'
        exact .inr ⟨j, rfl, by omega, hl', (hmuN j).1⟩
    have fresh : ∀ j, ids.length + j < r2.length → live (nth .dead r2 (ids.length + j)) = true → (∃ i, i < ids.length ∧ live (nth .dead h1 (nth 0 ids i)) = true ∧ C1.mu (nth 0 ids i) = C3.mu (ids.length + j)) ∨ C1.w.heap.size ≤ C3.mu (ids.length + j) := fun j hj hl' => by
      rcases S3.newb _ hj hl' with ⟨i, g1, g2, g3⟩ | g
      · exact .inl ⟨i, by omega, hliveS i g1 g2, g3⟩
      · exact .inr g
    have S4 : Step E.nt C1 h1 (C1.back h1.length ids C3) h4 := by
      refine ⟨E4, S3.os, S3.tape, S3.output, S3.size, fun b hb hq => S3.kept b hb fun i hi hl' => hq _ (hlt i (by omega)) (hliveS i hi hl'), fun k hk hl' => ?_, fun t b x hq => ?_⟩
      · rcases src k hk hl' with ⟨g1, g2, g3⟩ | ⟨j, rfl, g1, g2, g3⟩
        · exact .inl ⟨k, g1, g2, g3.symm⟩
        · rw [g3]
          rcases fresh j g1 g2 with ⟨i, p1, p2, p3⟩ | p
          · exact .inl ⟨_, hlt i p1, p2, p3⟩
          · exact .inr p
      · rcases S3.news t b x hq with g | ⟨rfl, g⟩
        · exact .inl g
        · refine .inr ⟨rfl, ?_⟩
          rcases g with ⟨i, g1, g2, g3⟩ | g
          · exact .inl ⟨_, hlt i (by omega), hliveS i g1 g2, g3⟩
          · exact .inr g
    have H4 : HRel (C1.back h1.length ids C3) h4 := by
      refine ⟨fun k hk => ?_, fun k k' hk hk' hl1 hl2 he => ?_, H3.fix⟩
      · by_cases hk1 : k < h1.length
        · rcases hcase k hk1 with ⟨i, g1, g2, g3⟩ | hq
          · subst g2
            rw [hin i g1]
            obtain ⟨gm, g⟩ := over i g1
            obtain ⟨m1, m2⟩ := hmuI i g1
            have hob := H3.obj i (by omega)
            rcases g with ⟨e, row, rowR, row', p1, p2, p3, p4⟩ | ⟨e, rows, c, w, fz, rows', fz', p1, p2, p3, p4⟩ | ⟨t, es, es', p1, p2⟩
            · rw [p1, p3]
              rw [p3] at hob
              obtain ⟨cs, c1, c2, c3, c4, _⟩ := hob
              have hob1 := H1.obj _ hk1
              rw [p1] at hob1
              obtain ⟨cs1, _, _, _, d4, _⟩ := hob1
              refine ⟨cs, by rw [m1]; exact c1, ?_, by rw [m1]; exact c3, backRow_ok R d4 p2 p4 c4 (fun i => by rw [Nat.zero_add]; rfl), trivial⟩
              rw [backRow_length, c2, okBack_length p4, renL_length p2]
            · rw [p1, p2]
              rw [p2] at hob
              obtain ⟨c1, c2, c3⟩ := hob
              refine ⟨c1, by rw [m2]; exact c2, fun hq => ?_⟩
              obtain ⟨cs, d1, d2, d3, d4, d5⟩ := c3 hq
              exact ⟨cs, by rw [m1]; exact d1, by rw [m2]; exact d2, by rw [m2]; exact d3, by rw [m1]; exact d4, fun i hi => plain_rowAt K (d5 i hi)⟩
            · rw [p1, p2]
              rw [p2] at hob
              obtain ⟨kt, vt, ys, ck, c1, c2, c3⟩ := hmap_obj hob
              have c1' : (ly (C1.back h1.length ids C3).L t).k = .map kt vt := c1
              simp only [backObj, HObj, c1']
              exact ⟨ys, ck, by rw [m1]; exact c2, plain_ents K c3⟩
          · rw [hout k hk1 hq]
            obtain ⟨m1, m2⟩ := hmuO k hk1 hq
            refine hobj_ext E4 (H1.obj k hk1) m1 m2 (fun hl' => ?_) (fun hl' t y hS => ?_)
            · exact S3.kept _ (live_lt (H1.obj k hk1) hl') fun i hi hli hmu => idxOf_none hq i (by omega) (H1.inj _ k (hlt i (by omega)) hk1 (hliveS i hi hli) hl' hmu)
            · rcases S3.news t _ y hS with g | ⟨_, g⟩
              · exact g
              · exfalso
                rcases g with ⟨i, g1, g2, g3⟩ | g
                · exact idxOf_none hq i (by omega) (H1.inj _ k (hlt i (by omega)) hk1 (hliveS i g1 g2) hl' g3)
                · have g' : C1.w.heap.size ≤ C1.mu k := g
                  have := live_lt (H1.obj k hk1) hl'; omega
        · obtain ⟨j, rfl⟩ : ∃ j, k = h1.length + j := ⟨k - h1.length, by omega⟩
          rw [hnew j]
          obtain ⟨m1, m2⟩ := hmuN j
          have hob := H3.obj (ids.length + j) (by omega)
          rcases resOk_obj ro (ids.length + j) (by omega) (by omega) with ⟨e, rows, c, fz, p⟩ | ⟨t, es, p⟩
          · rw [p] at hob ⊢
            obtain ⟨c1, c2, c3⟩ := hob
            refine ⟨c1, by rw [m2]; exact c2, fun hq => ?_⟩
            obtain ⟨cs, d1, d2, d3, d4, d5⟩ := c3 hq
            exact ⟨cs, by rw [m1]; exact d1, by rw [m2]; exact d2, by rw [m2]; exact d3, by rw [m1]; exact d4, fun i hi => plain_rowAt K (d5 i hi)⟩
          · rw [p] at hob ⊢
            obtain ⟨kt, vt, ys, ck, c1, c2, c3⟩ := hmap_obj hob
            have c1' : (ly (C1.back h1.length ids C3).L t).k = .map kt vt := c1
            simp only [HObj, c1']
            exact ⟨ys, ck, by rw [m1]; exact c2, plain_ents K c3⟩
      · have mixed : ∀ k j, k < h1.length → live (nth .dead h1 k) = true → live (nth .dead h4 k) = true → ids.length + j < r2.length → live (nth .dead r2 (ids.length + j)) = true → C1.mu k ≠ C3.mu (ids.length + j) := fun k j g1 g2 g2' g3 g4 hq => by
          rcases hcase k g1 with ⟨i, p1, p2, p3⟩ | hn
          · subst p2
            have := H3.inj i (ids.length + j) (by omega) g3 (hliveI i p1 g2').2 g4 ((over i p1).1.trans hq)
            omega
          · rcases fresh j g3 g4 with ⟨i, p1, p2, p3⟩ | p
            · exact idxOf_none hn i p1 (H1.inj _ k (hlt i p1) g1 p2 g2 (p3.trans hq.symm))
            · have := live_lt (H1.obj k g1) g2; omega
        rcases src k hk hl1 with ⟨g1, g2, g3⟩ | ⟨j, rfl, g1, g2, g3⟩ <;> rcases src k' hk' hl2 with ⟨g1', g2', g3'⟩ | ⟨j', rfl, g1', g2', g3'⟩
        · exact H1.inj k k' g1 g1' g2 g2' (by rw [← g3, ← g3', he])
        · exact absurd (by rw [← g3, ← g3', he]) (mixed k j' g1 g2 hl1 g1' g2')
        · exact absurd (by rw [← g3, ← g3', he]) (mixed k' j g1' g2' hl2 g1 g2)
        · have := H3.inj _ _ g1 g1' g2 g2' (by rw [← g3, ← g3', he]); omega
    refine ⟨C1.back h1.length ids C3, rfl, s1.trans S4, H4, oneOf_rel (t2 fun k hk1 hk2 => ?_)⟩
    obtain ⟨j, rfl⟩ : ∃ j, k = ids.length + j := ⟨k - ids.length, by omega⟩
    rw [b1, Nat.add_sub_cancel_left]
    exact ⟨hnew j, by omega, (hmuN j).1, (hmuN j).2⟩
end
end Go.Ev
/- The engine, part 32: a function's body; calls of calls. -/
namespace Go.Ev
open Go

def FOk (P : Program) : Prop := (P.funcs.toList.all fun fn => fn.body.isNone || !(fn.name == "runtime.NumGoroutine")) = true

section
variable {P : Program} {C : Cx} {h h' : List AObj} {nt : Nat}

theorem enter_rel {args : List AV} {vs : List Value} (n : Nat) (hr : LRel C h args vs) : TRel C h (args ++ List.replicate (n - args.length) .u) { tmps := vs.toArray ++ Array.replicate (n - vs.toArray.size) undef, defers := [] } := by
  have hl := lrel_length hr
  refine ⟨by simp; omega, fun i => ?_⟩
  rw [nth_append]
  split
  · rename_i hi
    obtain ⟨v, h1, h2⟩ := lrel_nth hr i hi
    have : (vs.toArray ++ Array.replicate (n - vs.toArray.size) undef).getD i undef = v := by
      have hlt : i < vs.length := by omega
      have h3 : (vs.toArray ++ Array.replicate (n - vs.toArray.size) undef)[i]? = some v := by
        rw [Array.getElem?_append_left (by simpa using hlt)]; simpa using h1
      simp only [Array.getD_eq_getD_getElem?, h3, Option.getD_some]
    rw [this]; exact h2
  · have : nth AV.u (List.replicate (n - args.length) AV.u) (i - args.length) = .u := by
      rw [nth_getElem?, List.getElem?_replicate]; split <;> rfl
    rw [this]; simp only [VRel]
/-- What a call comes to, whoever tells it. -/
def Fact (P : Program) (L : List Ly) (F : List (Nat × Sig)) (nt f : Nat) (args : List AV) (h : List AObj) (rs : List AV) (h' : List AObj) : Prop := ∀ (C : Cx) (vs : List Value), C.L = L → HRel C h → LRel C h args vs →
  (∃ fn, P.funcs[f]? = some fn ∧ fn.body.isNone = false ∧ (fn.name == "runtime.NumGoroutine") = false) ∧
  Calls P f vs.toArray C.w fun
    | .returned x, w' => ∃ C' xs, C'.w = w' ∧ Step nt C h C' h' ∧ HRel C' h' ∧ LRel C' h' rs xs ∧ x = oneV xs ∧ ResOk L h' h.length (sig F f).res rs ∧ okPasses L h h' = true
    | _, _ => False
theorem callOk_of {E : Env} (h : ∀ f args h rs h', E.call f args h = some (rs, h') → Fact P E.L E.F E.nt f args h rs h') : CallOk P E := fun hL H hr hv => h _ _ _ _ _ hv _ _ hL H hr
theorem fact_of {E : Env} (h : CallOk P E) {f : Nat} {args rs : List AV} {h1 h2 : List AObj} (hv : E.call f args h1 = some (rs, h2)) : Fact P E.L E.F E.nt f args h1 rs h2 := fun _ _ hL H hr => h hL H hr hv
/-- A function's body is evaluated, its callees being known: that is what a call of it comes to. -/
theorem body_ok {L : List Ly} {F : List (Nat × Sig)} {X : Call'} (LK : LOk P L) (hF : FOk P) (HD : CallAOk P ⟨L, F, nt, X⟩ → DrawOk (List AV × List AObj) P ⟨L, F, nt, X⟩) (HX : CallOk P ⟨L, F, nt, X⟩) (lv : List (Nat × LoopX)) (n : Nat)
    {f : Nat} {fn : Func} {args rs : List AV} {h h' : List AObj} (hfn : P.funcs[f]? = some fn) (hv : evBody ⟨L, F, nt, X⟩ lv n fn (sig F f).res args h = some (rs, h')) : Fact P L F nt f args h rs h' := by
  intro C vs hL H hr
  have HC : CallAOk P ⟨L, F, nt, X⟩ := callA_ok LK HX
  simp only [evBody] at hv
  cases hb : fn.body with
  | none => rw [hb] at hv; cases hv
  | some c =>
    rw [hb] at hv
    simp only at hv
    have hname : (fn.name == "runtime.NumGoroutine") = false := by
      have := List.all_eq_true.1 hF fn (List.mem_of_getElem? (by simpa using hfn : P.funcs.toList[f]? = some fn))
      rw [hb] at this
      simpa using this
    refine ⟨⟨fn, hfn, by rw [hb]; rfl, hname⟩, ?_⟩
    refine calls_of_wp hfn hb ?_
    have hfin : ∀ e, (e = .normal ∨ e = .ret) → KOk nt C h (rs, h') (finish ⟨L, F, nt, X⟩ fn (sig F f).res h) (bodyPost P fn (fun
        | .returned x, w' => ∃ C' xs, C'.w = w' ∧ Step nt C h C' h' ∧ HRel C' h' ∧ LRel C' h' rs xs ∧ x = oneV xs ∧ ResOk L h' h.length (sig F f).res rs ∧ okPasses L h h' = true
        | _, _ => False) e) := fun e he C1 s a R hf => by
      obtain ⟨xs, C', r1, r2, r3, r4, r5, r6, r7⟩ := finish_ok (P := P) (E := ⟨L, F, nt, X⟩) (by rw [hL]; exact LK) hL H R hf
      rcases he with rfl | rfl
      · exact ⟨R.d, oneV xs, r1, C', xs, r2, r3, r4, r5, rfl, r6, r7⟩
      · exact ⟨R.d, oneV xs, r1, C', xs, r2, r3, r4, r5, rfl, r6, r7⟩
    refine evCode_ok (E := ⟨L, F, nt, X⟩) (by rw [hL]; exact LK) hL HC (HD HC) n c _ _ _ _ (hfin .normal (.inl rfl)) (fun j C1 s a R hq => by cases hq) (hfin .ret (.inr rfl)) C _ _ ⟨Step.refl _ C h, H, ?_, rfl⟩ hv
    exact enter_rel fn.ntmps hr
theorem evCall_ok (Cf : Cfg) (LK : LOk Cf.P Cf.L) (hF : FOk Cf.P) (HD : ∀ X, CallAOk Cf.P ⟨Cf.L, Cf.F, nt, X⟩ → DrawOk (List AV × List AObj) Cf.P ⟨Cf.L, Cf.F, nt, X⟩) (n : Nat) : CallOk Cf.P ⟨Cf.L, Cf.F, nt, evCall Cf nt n⟩ := by
  refine callOk_of (E := ⟨Cf.L, Cf.F, nt, evCall Cf nt n⟩) ?_
  induction n with
  | zero => intro f args h rs h' hv; simp [evCall] at hv
  | succ n ih =>
    intro f args h rs h' hv
    replace hv : evCall Cf nt (n + 1) f args h = some (rs, h') := hv
    simp only [evCall] at hv
    cases hfn : Cf.P.funcs[f]? with
    | none => rw [hfn] at hv; cases hv
    | some fn =>
      rw [hfn] at hv
      exact body_ok LK hF (HD _) (callOk_of (E := ⟨Cf.L, Cf.F, nt, evCall Cf nt n⟩) ih) _ _ hfn hv
end
end Go.Ev
