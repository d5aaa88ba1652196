/- The evaluator and its soundness, text 4 of 4. -/
import Derived.Test.YtljiamlnpmhpmaaEvC
import Derived.Orders
import Derived.Below
import Derived.ChangeSame
set_option linter.unusedVariables false
set_option linter.unusedSimpArgs false
/- The engine, part 33: what an operation hangs on. -/
namespace Go.Ev
open Go

section
variable {P : Program} {C : Cx} {h h' : List AObj} {nt : Nat} {E : Env} {t t' : List AV}

theorem opds_congr {xs : Array Operand} (he : ∀ x ∈ xs, opd t x = opd t' x) : opds t xs = opds t' xs :=
  List.map_congr_left fun x hx => he x (by simpa using hx)
theorem pairs_congr {ps : Array (Nat × Operand)} (he : ∀ x ∈ ps.map (·.2), opd t x = opd t' x) : pairs t ps = pairs t' ps :=
  List.map_congr_left fun p hp => by rw [he p.2 (Array.mem_map.2 ⟨p, by simpa using hp, rfl⟩)]
theorem opA_congr (o : Op) (he : ∀ x ∈ o.operands, opd t x = opd t' x) : opA E t h o = opA E t' h o := by
  cases o
  case build ty ps => simp only [opA]; rw [pairs_congr fun x hx => he x (by simpa [Op.operands] using hx)]
  case buildSlice ty n ps => simp only [opA]; rw [pairs_congr fun x hx => he x (by simpa [Op.operands] using hx)]
  case makeFunc f xs ys =>
    cases f <;> simp only [opA]
    rw [opds_congr fun x hx => he x (by simp [Op.operands, hx])]
  case makeMap ty r => cases r <;> rfl
  case slice ty x lo hi mx =>
    simp only [opA]
    rw [he x (by simp [Op.operands])]
    have h1 : lo.map (opd t) = lo.map (opd t') := by cases lo <;> simp; exact he _ (by simp [Op.operands])
    have h2 : hi.map (opd t) = hi.map (opd t') := by cases hi <;> simp; exact he _ (by simp [Op.operands])
    have h3 : mx.map (opd t) = mx.map (opd t') := by cases mx <;> simp; exact he _ (by simp [Op.operands])
    rw [h1, h2, h3]
  case call c =>
    simp only [opA]
    have hargs : ∀ x ∈ c.args, opd t x = opd t' x := fun x hx => he x (by simp [Op.operands, Call.operands, hx])
    cases hc : c.callee with
    | builtin b =>
      have hm : ∀ x ∈ c.args.toList, opd t x = opd t' x := fun x hx => hargs x (by simpa using hx)
      revert hm
      generalize c.args.toList = xs
      generalize c.argTypes.toList = ts
      intro hm
      cases b <;> (try rfl) <;> rcases ts with _ | ⟨t0, _ | ⟨t1, _ | _⟩⟩ <;> rcases xs with _ | ⟨x, _ | ⟨y, _ | _⟩⟩ <;> first | rfl | simp [hm]
    | value f =>
      simp only
      rw [opds_congr hargs, he f (by simp [Op.operands, Call.operands, hc])]
    | invoke r m => rfl
  all_goals first
    | rfl
    | (simp only [Op.operands] at he; simp only [opA]; simp only [he _ (by simp)])
    | (simp only [Op.operands] at he; simp [opA, he])
end
end Go.Ev
/- The engine, part 34: readers. -/
namespace Go.Ev
open Go

/-- Two heaps agree as far as a reader looks. -/
structure Agree (l lb : List Nat) (h h2 : List AObj) : Prop where
  at_ : ∀ o, o ∈ l → nth .dead h2 o = nth .dead h o
  box : ∀ o, o ∈ lb → ∀ e row, nth .dead h o = .box e row → ∃ e' row', nth .dead h2 o = .box e' row'

section
variable {lb : List Nat} {E : Env} {L : List Ly} {t : List AV} {h h2 h' : List AObj}

theorem cellsAt_agree {a : AV} (A : Agree (top1 a) lb h h2) : cellsAt L h2 a = cellsAt L h a := by
  cases a <;> try rfl
  simp only [cellsAt]; rw [A.at_ _ (by simp [top1])]
theorem nlOf_agree {a : AV} (A : Agree (top1 a) lb h h2) : nlOf h2 a = nlOf h a := by
  cases a <;> try rfl
  simp only [nlOf]; rw [A.at_ _ (by simp [top1])]
theorem rowsOf_agree {a : AV} (A : Agree (top1 a) lb h h2) : rowsOf h2 a = rowsOf h a := by
  cases a <;> try rfl
  · simp only [rowsOf]; rw [A.at_ _ (by simp [top1])]
  · simp only [rowsOf]; rw [A.at_ _ (by simp [top1])]
theorem ptrLive_agree {o v i j : Nat} (A : Agree (addrFoot h (.ptr o v i j)) (addrBox h (.ptr o v i j)) h h2) : ptrLive h2 o v = ptrLive h o v := by
  simp only [addrFoot, addrBox] at A
  unfold ptrLive
  cases hn : nth .dead h o with
  | box e row =>
    rw [hn] at A
    obtain ⟨e', row', h1⟩ := A.box o (by simp) e row hn
    rw [h1]
  | _ =>
    rw [hn] at A
    rw [A.at_ o (by simp), hn]
theorem offAt_agree {a : AV} {n : Nat} (A : Agree (addrFoot h a) (addrBox h a) h h2) : offAt h2 a n = offAt h a n := by
  cases a <;> try rfl
  simp only [offAt]; rw [ptrLive_agree A]
theorem nilCheck_agree {a : AV} (A : Agree (addrFoot h a) (addrBox h a) h h2) : nilCheckA h2 a = nilCheckA h a := by
  cases a <;> try rfl
  · simp only [nilCheckA]; rw [ptrLive_agree A]
  · rename_i f cs; cases f <;> rfl
theorem ok1_re {r r2 : Option AV} {c : Bool} {v : AV} (hv : ok1 r h = some (c, v, h')) (he : r2 = r) : h' = h ∧ ok1 r2 h2 = some (c, v, h2) := by
  subst he
  simp only [ok1, Option.bind_eq_some_iff, Option.some.injEq, Prod.mk.injEq] at hv ⊢
  obtain ⟨w, h1, rfl, rfl, rfl⟩ := hv
  exact ⟨rfl, w, h1, rfl, rfl, trivial⟩
theorem ok2_re {r r2 : Option (Bool × AV)} {c : Bool} {v : AV} (hv : ok2 r h = some (c, v, h')) (he : r2 = r) : h' = h ∧ ok2 r2 h2 = some (c, v, h2) := by
  subst he
  simp only [ok2, Option.bind_eq_some_iff, Option.some.injEq, Prod.mk.injEq] at hv ⊢
  obtain ⟨w, h1, rfl, rfl, rfl⟩ := hv
  exact ⟨rfl, w, h1, rfl, rfl, trivial⟩
theorem slice_agree {ty : Nat} {a : AV} {lo hi mx : Option AV} (A : Agree (top1 a) lb h h2) : sliceA L h2 ty a lo hi mx = sliceA L h ty a lo hi mx := by
  cases a
  case own o ver => have := A.at_ o (by simp [top1]); simp only [sliceA]; cases (ly L ty).k <;> first | rfl | simp only [this]
  case sl o ver off len => have := A.at_ o (by simp [top1]); simp only [sliceA]; cases (ly L ty).k <;> first | rfl | simp only [this]
  all_goals (simp only [sliceA]; cases (ly L ty).k <;> rfl)
theorem len_agree {ty : Nat} {a : AV} (A : Agree (top1 a) lb h h2) : lenA L h2 ty a = lenA L h ty a := by
  cases a
  case own o ver => have := A.at_ o (by simp [top1]); simp only [lenA]; cases (ly L ty).k <;> first | rfl | simp only [this]
  case sl o ver off len => have := A.at_ o (by simp [top1]); simp only [lenA]; cases (ly L ty).k <;> first | rfl | simp only [this]
  case map o => have := A.at_ o (by simp [top1]); simp only [lenA]; cases (ly L ty).k <;> first | rfl | simp only [this]
  all_goals (simp only [lenA]; cases (ly L ty).k <;> rfl)
theorem lookup_agree {ty : Nat} {a k : AV} {ok : Bool} (A : Agree (top1 a) lb h h2) : lookupA L h2 ty a k ok = lookupA L h ty a k ok := by
  cases a
  case map o => have := A.at_ o (by simp [top1]); simp only [lookupA]; cases (ly L ty).k <;> first | rfl | simp only [this]
  all_goals (simp only [lookupA]; try (cases (ly L ty).k <;> rfl))
theorem bin_agree {l : Ly} {op : BinOp} {x y : AV} (A : Agree (top1 x) lb h h2) : binA l h2 op x y = binA l h op x y := by
  have hn := nlOf_agree A
  unfold binA
  cases x <;> cases y <;> first | rfl | (cases l.k <;> first | rfl | simp only [hn])
theorem binT_agree {l : Ly} {op : BinOp} {x y : AV} (A : Agree (top1 x) lb h h2) : binT l h2 op x y = binT l h op x y := by
  unfold binT
  split
  · split <;> first | rfl | rw [bin_agree (lb := lb) A]
  · split <;> first | rfl | rw [bin_agree (lb := lb) A]
  · rw [bin_agree (lb := lb) A]
theorem indexAddr_agree {ty : Nat} {a : AV} {i : Int} (A : Agree (addrFoot h a) (addrBox h a) h h2) : indexAddrA L h2 ty a i = indexAddrA L h ty a i := by
  cases a
  case own o ver => have := A.at_ o (by simp [addrFoot, top1]); simp only [indexAddrA, offAt_agree A]; cases (ly L ty).k <;> first | rfl | simp only [this]
  case sl o ver off len => have := A.at_ o (by simp [addrFoot, top1]); simp only [indexAddrA, offAt_agree A]; cases (ly L ty).k <;> first | rfl | simp only [this]
  all_goals (unfold indexAddrA; cases (ly L ty).k <;> first | rfl | simp only [offAt_agree A])
theorem fieldAddr_agree {ty f : Nat} {a : AV} (A : Agree (addrFoot h a) (addrBox h a) h h2) : fieldAddrA L h2 ty a f = fieldAddrA L h ty a f := by
  simp only [fieldAddrA, offAt_agree A]
end
end Go.Ev
/- The engine, part 35: readers, writers. -/
namespace Go.Ev
open Go

section
variable {lb : List Nat} {E : Env} {L : List Ly} {t : List AV} {h h2 h' : List AObj}

theorem conv_agree {src dst : Nat} {a : AV} {v : AV} (A : Agree (top1 a) lb h h2) (hv : convertA L E.nt h src dst a = some (v, h')) : h' = h ∧ convertA L E.nt h2 src dst a = some (v, h2) := by
  have hr := rowsOf_agree A
  unfold convertA at hv ⊢
  split at hv
  · simp only [Option.some.injEq, Prod.mk.injEq] at hv ⊢; obtain ⟨rfl, rfl⟩ := hv; exact ⟨rfl, rfl, trivial⟩
  · simp only [Option.some.injEq, Prod.mk.injEq] at hv ⊢; obtain ⟨rfl, rfl⟩ := hv; exact ⟨rfl, rfl, trivial⟩
  · split at hv
    · simp only [Option.some.injEq, Prod.mk.injEq] at hv ⊢; obtain ⟨rfl, rfl⟩ := hv; exact ⟨rfl, rfl, trivial⟩
    · cases hv
  · split at hv
    · rw [hr]
      simp only [Option.bind_eq_some_iff, cond_eq_ite] at hv ⊢
      obtain ⟨p, hp, hv⟩ := hv
      split at hv
      · rename_i hc
        simp only [Option.some.injEq, Prod.mk.injEq] at hv
        obtain ⟨rfl, rfl⟩ := hv
        exact ⟨rfl, p, hp, by rw [if_pos hc]⟩
      · cases hv
    · cases hv
  · cases hv
theorem ok3_re {r r2 : Option (AV × List AObj)} {c : Bool} {v : AV} (hv : ok3 r = some (c, v, h')) (he : ∀ w, r = some (w, h') → h' = h ∧ r2 = some (w, h2)) : h' = h ∧ ok3 r2 = some (c, v, h2) := by
  simp only [ok3, Option.bind_eq_some_iff, Option.some.injEq, Prod.mk.injEq] at hv ⊢
  obtain ⟨⟨w, h1⟩, h3, rfl, rfl, rfl⟩ := hv
  obtain ⟨g1, g2⟩ := he w h3
  exact ⟨g1, (w, h2), g2, rfl, rfl, rfl⟩
theorem reader_ok {o : Op} {c : Bool} {v : AV} (hr : isReader o = true) (hv : opA E t h o = some (c, v, h')) (A : Agree (rdFoot t h o) (rbFoot t h o) h h2) : h' = h ∧ opA E t h2 o = some (c, v, h2) := by
  cases o <;> simp only [isReader, Bool.false_eq_true] at hr <;> simp only [rdFoot, rbFoot] at A
  case move x => simp only [opA, Option.some.injEq, Prod.mk.injEq] at hv ⊢; obtain ⟨rfl, rfl, rfl⟩ := hv; exact ⟨rfl, rfl, rfl, trivial⟩
  case assign x => simp only [opA, Option.some.injEq, Prod.mk.injEq] at hv ⊢; obtain ⟨rfl, rfl, rfl⟩ := hv; exact ⟨rfl, rfl, rfl, trivial⟩
  case pick x y z =>
    simp only [opA] at hv ⊢
    split at hv
    · simp only [Option.some.injEq, Prod.mk.injEq] at hv ⊢; obtain ⟨rfl, rfl, rfl⟩ := hv; exact ⟨rfl, rfl, rfl, trivial⟩
    · cases hv
  case build ty ps => exact ok1_re hv rfl
  case load ty x => exact ok1_re hv (by simp only [loadA, cellsAt_agree A])
  case nilCheck x => exact ok1_re hv (nilCheck_agree A)
  case binOp op ty x y u => exact ok2_re hv (binT_agree A)
  case unOp op ty x => exact ok1_re hv rfl
  case convert s d x => exact ok3_re hv fun w hw => conv_agree A hw
  case makeFunc f xs ys =>
    cases f <;> simp only [opA, reduceCtorEq] at hv ⊢
    simp only [cond_eq_ite] at hv ⊢
    split at hv
    · rename_i hc; rw [if_pos hc]; simp only [Option.some.injEq, Prod.mk.injEq] at hv ⊢; obtain ⟨rfl, rfl, rfl⟩ := hv; exact ⟨rfl, rfl, rfl, trivial⟩
    · cases hv
  case slice ty x lo hi mx => exact ok2_re hv (slice_agree A)
  case fieldAddr ty x f => exact ok1_re hv (fieldAddr_agree A)
  case field ty x f =>
    simp only [opA] at hv ⊢
    split at hv
    · exact ok1_re hv rfl
    · cases hv
  case indexAddr ty x y =>
    simp only [opA] at hv ⊢
    split at hv
    · exact ok2_re hv (indexAddr_agree A)
    · cases hv
  case index ty x y =>
    simp only [opA] at hv ⊢
    split at hv
    · exact ok2_re hv rfl
    · cases hv
  case lookup ty m k ok => exact ok1_re hv (lookup_agree A)
  case extract x i =>
    simp only [opA] at hv ⊢
    split at hv
    · simp only [cond_eq_ite] at hv ⊢
      split at hv
      · rename_i hc; rw [if_pos hc]; simp only [Option.some.injEq, Prod.mk.injEq] at hv ⊢; obtain ⟨rfl, rfl, rfl⟩ := hv; exact ⟨rfl, rfl, rfl, trivial⟩
      · cases hv
    · cases hv
  case call c =>
    simp only [opA] at hv ⊢
    cases hc : c.callee with
    | builtin b =>
      rw [hc] at hr hv
      cases b <;> simp [isLen] at hr
      simp only at hv ⊢
      split at hv
      · rename_i t0 ts x h0 h1
        have A1 : Agree (top1 (opd t x)) [] h h2 := by
          have : opds t c.args = [opd t x] := by simp [opds, h1]
          rw [this] at A
          simpa [tops] using A
        exact ok1_re hv (by rw [len_agree A1])
      · cases hv
    | value f => rw [hc] at hr; simp [isLen] at hr
    | invoke r m => rw [hc] at hr; simp [isLen] at hr
end
end Go.Ev
/- The engine, part 36: writers. -/
namespace Go.Ev
open Go

/-- Only the objects of a list were turned; boxes stay boxes. -/
structure Turned (l : List Nat) (h h' : List AObj) : Prop where
  len : h.length ≤ h'.length
  other : ∀ o, o < h.length → o ∉ l → nth .dead h' o = nth .dead h o
  box : ∀ o e row, nth .dead h o = .box e row → ∃ e' row', nth .dead h' o = .box e' row'
  back : ∀ o, o < h.length → ∀ e row, nth .dead h' o = .box e row → ∃ e' row', nth .dead h o = .box e' row'

section
variable {E : Env} {L : List Ly} {t : List AV} {h h2 h' h'' : List AObj} {l l' : List Nat}

theorem Turned.refl (l : List Nat) (h : List AObj) : Turned l h h := ⟨Nat.le_refl _, fun _ _ _ => rfl, fun o e row hq => ⟨e, row, hq⟩, fun o _ e row hq => ⟨e, row, hq⟩⟩
theorem Turned.trans (a : Turned l h h') (b : Turned l' h' h'') : Turned (l ++ l') h h'' :=
  ⟨Nat.le_trans a.len b.len, fun o ho hn => by
    rw [List.mem_append, not_or] at hn
    rw [b.other o (Nat.lt_of_lt_of_le ho a.len) hn.2, a.other o ho hn.1], fun o e row hq => by
    obtain ⟨e', row', h1⟩ := a.box o e row hq
    exact b.box o e' row' h1, fun o ho e row hq => by
    obtain ⟨e', row', h1⟩ := b.back o (Nat.lt_of_lt_of_le ho a.len) e row hq
    exact a.back o ho e' row' h1⟩
theorem Turned.mono (a : Turned l h h') (hs : ∀ o, o ∈ l → o ∈ l') : Turned l' h h' := ⟨a.len, fun o ho hn => a.other o ho fun hq => hn (hs o hq), a.box, a.back⟩
theorem turned_upd {o : Nat} {x : AObj} (hx : ∀ e row, nth .dead h o = .box e row → ∃ e' row', x = .box e' row') (hy : ∀ e row, x = .box e row → ∃ e' row', nth .dead h o = .box e' row') : Turned [o] h (upd h o x) := by
  refine ⟨by rw [upd_length]; exact Nat.le_refl _, fun k hk hn => by rw [nth_upd, if_neg]; rintro ⟨rfl, _⟩; simp at hn, fun k e row hq => ?_, fun k hk e row hq => ?_⟩
  · rw [nth_upd]
    split
    · rename_i hc; obtain ⟨rfl, _⟩ := hc; exact hx e row hq
    · exact ⟨e, row, hq⟩
  · rw [nth_upd] at hq
    split at hq
    · rename_i hc; obtain ⟨rfl, _⟩ := hc; exact hy e row hq
    · exact ⟨e, row, hq⟩
theorem turned_app (xs : List AObj) : Turned [] h (h ++ xs) := by
  refine ⟨by simp, fun k hk _ => by rw [nth_append, if_pos hk], fun k e row hq => ⟨e, row, ?_⟩, fun k hk e row hq => ⟨e, row, ?_⟩⟩
  · rw [nth_append, if_pos (nth_ne hq (by simp))]; exact hq
  · rw [nth_append, if_pos hk] at hq; exact hq
theorem frzV_turned {nt : Nat} {v v' : AV} (hf : frzV nt h v = some (v', h')) : Turned (top1 v) h h' := by
  have arr : ∀ {o e : Nat} {rows : List Row} {c : Cp} {w fz : Nat} {x : AObj}, nth .dead h o = .arr e rows c w fz → (∀ e row, x ≠ .box e row) → Turned [o] h (upd h o x) := fun hn hx => turned_upd (fun e row hq => by rw [hn] at hq; cases hq) (fun e row hq => absurd hq (hx e row))
  unfold frzV at hf
  split at hf
  · split at hf
    · rename_i hn
      simp only [cond_eq_ite] at hf
      split at hf
      · simp only [Option.some.injEq, Prod.mk.injEq] at hf; rw [← hf.2]; exact arr hn (fun _ _ => nofun)
      · cases hf
    · cases hf
  · split at hf
    · rename_i hn
      simp only [cond_eq_ite] at hf
      split at hf
      · simp only [Option.some.injEq, Prod.mk.injEq] at hf; rw [← hf.2]; exact arr hn (fun _ _ => nofun)
      · cases hf
    · cases hf
  · simp only [Option.some.injEq, Prod.mk.injEq] at hf; rw [← hf.2]; exact Turned.refl _ _
theorem frzL_turned {nt : Nat} : ∀ {cs cs' : List AV} {h h' : List AObj}, frzL nt h cs = some (cs', h') → Turned (tops cs) h h'
  | [], cs', h, h', hf => by
    simp only [frzL, Option.some.injEq, Prod.mk.injEq] at hf; rw [← hf.2]; exact Turned.refl _ _
  | c :: cs, cs', h, h', hf => by
    simp only [frzL, Option.bind_eq_some_iff, Option.some.injEq, Prod.mk.injEq] at hf
    obtain ⟨⟨v1, h1⟩, g1, ⟨q1, q2⟩, g2, _, rfl⟩ := hf
    exact (frzV_turned g1).trans (frzL_turned g2)
theorem frz_turned {nt : Nat} {v v' : AV} (hf : frz nt h v = some (v', h')) : Turned (tops v.toCells) h h' := by
  have single : v.toCells = [v] → frzV nt h v = some (v', h') → Turned (tops v.toCells) h h' := fun he hq => by
    rw [he]; simp only [tops, List.append_nil]; exact frzV_turned hq
  cases v <;> (try exact single rfl hf)
  simp only [frz, Option.bind_eq_some_iff, Option.some.injEq, Prod.mk.injEq] at hf
  obtain ⟨⟨q1, q2⟩, g, _, rfl⟩ := hf
  exact frzL_turned g
theorem frzArgs_turned {nt : Nat} : ∀ {bs : List Bool} {vs vs' : List AV} {h h' : List AObj}, frzArgs nt h bs vs = some (vs', h') → Turned (wrVals vs) h h'
  | bs, [], vs', h, h', hf => by
    simp only [frzArgs, Option.some.injEq, Prod.mk.injEq] at hf; rw [← hf.2]; exact Turned.refl _ _
  | bs, v :: vs, vs', h, h', hf => by
    simp only [frzArgs, Option.bind_eq_some_iff, Option.some.injEq, Prod.mk.injEq] at hf
    obtain ⟨⟨v1, h1⟩, g1, ⟨q1, q2⟩, g2, _, rfl⟩ := hf
    have one : Turned (tops v.toCells) h h1 := by
      split at g1
      · simp only [Option.some.injEq, Prod.mk.injEq] at g1; rw [← g1.2]; exact Turned.refl _ _
      · exact frz_turned g1
    exact one.trans (frzArgs_turned g2)
theorem backObjs_turned {L : List Ly} {new : List AObj} : ∀ {os : List Nat} {h : List AObj} {j : Nat}, Turned os h (backObjs L h os new j)
  | [], h, j => Turned.refl _ _
  | o :: os, h, j => by
    simp only [backObjs]
    have one : Turned [o] h (upd h o (backObj L (nth .dead h o) (nth .dead new j))) := turned_upd (fun e row hq => by rw [hq]; exact ⟨_, _, rfl⟩) (fun e row hq => by cases hn : nth AObj.dead h o <;> rw [hn] at hq <;> simp only [backObj, reduceCtorEq] at hq; exact ⟨_, _, rfl⟩)
    exact one.trans backObjs_turned
theorem takeRes_turned {L : List Ly} {new : List AObj} : ∀ {ks : List RK} {rs : List AV} {i m j : Nat} {h : List AObj}, Turned [] h (takeRes L new ks rs i m j h).2
  | [], rs, i, m, j, h => Turned.refl _ _
  | .v t :: ks, rs, i, m, j, h => by simp only [takeRes]; exact takeRes_turned
  | .own t :: ks, rs, i, m, j, h => by simp only [takeRes]; exact (turned_app _).trans takeRes_turned
  | .mp t :: ks, rs, i, m, j, h => by simp only [takeRes]; exact (turned_app _).trans takeRes_turned
theorem callA_turned {f : Nat} {args : List AV} {v : AV} (hv : callA E h f args = some (v, h')) : Turned (callFoot E h f args) h h' := by
  simp only [callA, Option.bind_eq_some_iff, Option.some.injEq, Prod.mk.injEq] at hv
  obtain ⟨⟨args1, h1⟩, hfz, args2, hren, hs, hobjs, ⟨rs, r2⟩, hcall, _, rfl⟩ := hv
  have t1 := frzArgs_turned hfz
  simp only at hren hobjs ⊢
  refine ((t1.trans backObjs_turned).trans takeRes_turned).mono fun o ho => ?_
  simp only [callFoot, hfz, List.append_nil] at ho ⊢
  exact ho
theorem store_turned {ty : Nat} {a v : AV} {b : Bool} (hv : storeT L h ty a v = some (b, h')) : Turned (top1 a) h h' := by
  unfold storeT at hv
  simp only [cond_eq_ite] at hv
  split at hv
  case isFalse => cases hv
  cases a <;> simp only [reduceCtorEq] at hv
  split at hv
  · rename_i hn
    split at hv
    · simp only [Option.some.injEq, Prod.mk.injEq] at hv; rw [← hv.2]; exact turned_upd (fun _ _ _ => ⟨_, _, rfl⟩) (fun _ _ _ => ⟨_, _, hn⟩)
    · cases hv
  · rename_i hn
    split at hv
    · simp only [Option.some.injEq, Prod.mk.injEq] at hv; rw [← hv.2]; exact turned_upd (fun _ _ hq => by rw [hn] at hq; cases hq) (fun _ _ => nofun)
    · cases hv
  · cases hv
theorem append_turned {t0 t1 : Nat} {x y : AV} {c : Bool} {v : AV} (hv : appendA L h t0 t1 x y = some (c, v, h')) : Turned (top1 x) h h' := by
  have tapp : ∀ xs, Turned (top1 x) h (h ++ xs) := fun xs => (turned_app xs).mono fun o ho => by simp at ho
  unfold appendA at hv
  split at hv
  case h_2 => cases hv
  simp only [cond_eq_ite] at hv
  split at hv
  case isFalse => cases hv
  simp only [Option.bind_eq_some_iff] at hv
  obtain ⟨xs, _, hv⟩ := hv
  cases x <;> simp only [reduceCtorEq] at hv
  · split at hv
    case isFalse => cases hv
    split at hv
    · simp only [Option.some.injEq, Prod.mk.injEq] at hv; rw [← hv.2.2]; exact tapp _
    · split at hv
      · simp only [Option.some.injEq, Prod.mk.injEq] at hv; rw [← hv.2.2]; exact Turned.refl _ _
      · split at hv
        · simp only [Option.some.injEq, Prod.mk.injEq] at hv; rw [← hv.2.2]; exact tapp _
        · cases hv
  · split at hv
    · rename_i hn
      split at hv
      · simp only [Option.some.injEq, Prod.mk.injEq] at hv; rw [← hv.2.2]; exact turned_upd (fun _ _ hq => by rw [hn] at hq; cases hq) (fun _ _ => nofun)
      · cases hv
    · cases hv
theorem setRows_turned {nt e : Nat} : ∀ {ps : List (Nat × AV)} {h h' : List AObj} {rows rows' : List Row}, setRows L nt e h rows ps = some (rows', h') → Turned (wrVals (ps.map (·.2))) h h'
  | [], h, h', rows, rows', hf => by
    simp only [setRows, Option.some.injEq, Prod.mk.injEq] at hf; rw [← hf.2]; exact Turned.refl _ _
  | (i, v) :: ps, h, h', rows, rows', hf => by
    simp only [setRows, Option.bind_eq_some_iff, cond_eq_ite] at hf
    obtain ⟨⟨v1, h1⟩, g1, hf⟩ := hf
    split at hf
    · exact (frzL_turned g1).trans (setRows_turned hf)
    · cases hf
theorem mapSet_turned {nt ty : Nat} {m k v : AV} (hv : mapSetA L nt h ty m k v = some h') : Turned (top1 m ++ wrVals [v]) h h' := by
  unfold mapSetA at hv
  split at hv
  case h_2 => cases hv
  simp only [Option.bind_eq_some_iff, cond_eq_ite] at hv
  obtain ⟨⟨v1, h1⟩, g1, hv⟩ := hv
  split at hv
  case isFalse => cases hv
  split at hv
  · rename_i hn
    split at hv
    · simp only [Option.some.injEq] at hv
      rw [← hv]
      have t2 : ∀ (o : Nat) (x : AObj), (∀ e row, nth .dead h1 o ≠ .box e row) → (∀ e row, x ≠ .box e row) → Turned [o] h1 (upd h1 o x) := fun o x hne hx => turned_upd (fun _ _ hq => absurd hq (hne _ _)) (fun _ _ hq => absurd hq (hx _ _))
      refine ((frz_turned g1).trans (t2 _ _ (fun e row hq => by rw [hn] at hq; cases hq) (fun _ _ hq => by cases hq))).mono fun o ho => ?_
      simp only [wrVals, List.append_nil, top1, List.mem_append] at ho ⊢
      exact ho.symm
    · cases hv
  · cases hv
end
end Go.Ev
/- The engine, part 37: what an operation turns. -/
namespace Go.Ev
open Go

section
variable {E : Env} {L : List Ly} {t : List AV} {h h' : List AObj}

theorem ok3_some' {r : Option (AV × List AObj)} {c : Bool} {v : AV} (hv : ok3 r = some (c, v, h')) : r = some (v, h') := by
  simp only [ok3, Option.bind_eq_some_iff, Option.some.injEq, Prod.mk.injEq] at hv
  obtain ⟨⟨b, w⟩, h1, _, rfl, rfl⟩ := hv
  exact h1
theorem agree_self (l lb : List Nat) (h : List AObj) : Agree l lb h h := ⟨fun _ _ => rfl, fun o _ e row hq => ⟨e, row, hq⟩⟩
theorem opA_turned {o : Op} {c : Bool} {v : AV} (hv : opA E t h o = some (c, v, h')) : Turned (wrFoot E t h o) h h' := by
  have app : ∀ xs, Turned [] h (h ++ xs) := fun xs => turned_app xs
  cases hr : isReader o
  case true => rw [(reader_ok hr hv (agree_self _ _ h)).1]; exact Turned.refl _ _
  cases o <;> simp only [isReader, Bool.true_eq_false, reduceCtorEq] at hr <;> simp only [opA, reduceCtorEq] at hv <;> simp only [wrFoot]
  case alloc e =>
    simp only [cond_eq_ite] at hv
    split at hv
    · simp only [Option.some.injEq, Prod.mk.injEq] at hv; rw [← hv.2.2]; exact app _
    · cases hv
  case box e x =>
    simp only [cond_eq_ite] at hv
    split at hv
    · simp only [Option.some.injEq, Prod.mk.injEq] at hv; rw [← hv.2.2]; exact app _
    · cases hv
  case buildSlice ty n ps =>
    simp only [ok3, buildSliceA, Option.bind_eq_some_iff] at hv
    obtain ⟨p, hv, h2⟩ := hv
    simp only [Option.some.injEq, Prod.mk.injEq] at h2
    split at hv
    case h_2 => cases hv
    simp only [cond_eq_ite] at hv
    split at hv
    case isFalse => cases hv
    simp only [Option.bind_eq_some_iff, Option.some.injEq] at hv
    obtain ⟨q, hq, rfl⟩ := hv
    rw [← h2.2.2]
    have t2 : ∀ x, Turned [] q.2 (q.2 ++ x) := fun x => turned_app x
    have t1 : Turned (wrVals ((pairs t ps).map (·.2))) h q.2 := setRows_turned hq
    exact (t1.trans (t2 _)).mono fun o ho => by rw [List.append_nil] at ho; exact ho
  case store ty x y =>
    simp only [Option.bind_eq_some_iff, Option.some.injEq, Prod.mk.injEq] at hv
    obtain ⟨⟨b1, h1⟩, hst, _, _, rfl⟩ := hv
    exact store_turned hst
  case makeMap ty r =>
    cases r <;> simp only [reduceCtorEq] at hv
    split at hv
    · simp only [Option.some.injEq, Prod.mk.injEq] at hv; rw [← hv.2.2]; exact app _
    · cases hv
  case insert ty m k x =>
    simp only [Option.bind_eq_some_iff, Option.some.injEq, Prod.mk.injEq] at hv
    obtain ⟨h1, hst, _, _, rfl⟩ := hv
    exact mapSet_turned hst
  case mapUpdate ty m k x =>
    simp only [Option.bind_eq_some_iff, Option.some.injEq, Prod.mk.injEq] at hv
    obtain ⟨h1, hst, _, _, rfl⟩ := hv
    exact mapSet_turned hst
  case makeSlice ty x y =>
    unfold makeSliceA at hv
    split at hv
    case h_2 => cases hv
    simp only [cond_eq_ite] at hv
    split at hv
    · simp only [Option.some.injEq, Prod.mk.injEq] at hv; rw [← hv.2.2]; exact app _
    · cases hv
  case call c =>
    cases hc : c.callee with
    | builtin b =>
      rw [hc] at hr hv
      cases b <;> simp only [isLen, reduceCtorEq] at hr hv
      simp only at hv ⊢
      split at hv
      · rename_i t0 t1 x y h0 h1
        refine (append_turned hv).mono fun o ho => ?_
        simp only [opds, h1, List.map_cons, tops, List.mem_append]
        exact .inl ho
      · cases hv
    | value f =>
      rw [hc] at hv
      simp only at hv ⊢
      split at hv
      · rename_i g caps hf
        exact callA_turned (ok3_some' hv)
      · cases hv
    | invoke r m => rw [hc] at hv; cases hv
end
end Go.Ev
/- The engine, part 38: what was done, in the order of the text. -/
namespace Go.Ev
open Go

def Wanted (all : List Oper) (o : Oper) (t : List AV) : Prop :=
  match o.guard with
  | none => True
  | some (g, want) => ∃ d, dstOf all g = some d ∧ nth .u t d = .bool want
def Unwanted (all : List Oper) (o : Oper) (t : List AV) : Prop :=
  match o.guard with
  | none => False
  | some (g, want) => ∃ d, dstOf all g = some d ∧ (nth .u t d = .bool (!want) ∨ nth .u t d = .tup [])
structure Ran (E : Env) (o : Oper) (x : Tr) (h' : List AObj) : Prop where
  wd : x.wd = true
  rdr : x.rdr = isReader o.op
  rd : x.rd = rdFoot x.s.t x.s.h o.op
  rb : x.rb = rbFoot x.s.t x.s.h o.op
  wr : x.wr = wrFoot E x.s.t x.s.h o.op ++ upTo x.s.h.length (h'.length - x.s.h.length)
  nw : x.nw = upTo x.s.h.length (h'.length - x.s.h.length)
  op : opA E x.s.t x.s.h o.op = some (true, x.v, h')
structure Skipped (x : Tr) : Prop where
  wd : x.wd = false
  rdr : x.rdr = true
  v : x.v = .tup []
def StepD (E : Env) (all : List Oper) (o : Oper) (x : Tr) (s' : St) : Prop :=
  (∃ h', Wanted all o x.s.t ∧ Ran E o x h' ∧ s' = ⟨put x.s.t o.dst x.v, h'⟩) ∨ (Unwanted all o x.s.t ∧ Skipped x ∧ s' = ⟨put x.s.t o.dst x.v, x.s.h⟩)
def Chain (E : Env) (all : List Oper) : List Oper → List Tr → St → St → Prop
  | [], [], s, s' => s = s'
  | o :: os, x :: xs, s, s' => x.s = s ∧ ∃ s1, StepD E all o x s1 ∧ Chain E all os xs s1 s'
  | _, _, _, _ => False

section
variable {ρ : Type} {r : ρ} {E : Env} {all : List Oper}

theorem runOpD_eq {o : Oper} {rest : List Tr → St → Option ρ} {tr : List Tr} {s : St} : runOpD E o rest tr s = runOpD0 E o rest tr s := by
  unfold runOpD
  split
  · rename_i f args hc
    rw [callK_eq]
    unfold runOpD0
    rw [callOf_op hc]
    cases callA E s.h f args <;> rfl
  · rfl
theorem runOpD_step {o : Oper} {rest : List Tr → St → Option ρ} {tr : List Tr} {s : St} (hw : Wanted all o s.t) (hv : runOpD E o rest tr s = some r) :
    ∃ x s1, x.s = s ∧ StepD E all o x s1 ∧ rest (tr ++ [x]) s1 = some r := by
  rw [runOpD_eq] at hv
  unfold runOpD0 at hv
  split at hv
  case h_2 => cases hv
  rename_i c v h hop
  cases c
  case false => cases hv
  simp only [cond_true] at hv
  exact ⟨_, _, rfl, .inl ⟨h, hw, ⟨rfl, rfl, rfl, rfl, rfl, rfl, hop⟩, rfl⟩, hv⟩
theorem skipD_step {o : Oper} {rest : List Tr → St → Option ρ} {tr : List Tr} {s : St} (hw : Unwanted all o s.t) (hv : skipD o rest tr s = some r) :
    ∃ x s1, x.s = s ∧ StepD E all o x s1 ∧ rest (tr ++ [x]) s1 = some r :=
  ⟨_, _, rfl, .inr ⟨hw, ⟨rfl, rfl, rfl⟩, rfl⟩, hv⟩
theorem evOpsD_chain {k : List Tr → St → Option ρ} : ∀ (os : List Oper) (tr : List Tr) (s : St), evOpsD E all os k tr s = some r → ∃ T s', Chain E all os T s s' ∧ k (tr ++ T) s' = some r
  | [], tr, s, hv => ⟨[], s, rfl, by simpa [evOpsD] using hv⟩
  | o :: os, tr, s, hv => by
    have fin : ∀ {rest : List Tr → St → Option ρ}, (∃ x s1, x.s = s ∧ StepD E all o x s1 ∧ evOpsD E all os k (tr ++ [x]) s1 = some r) → ∃ T s', Chain E all (o :: os) T s s' ∧ k (tr ++ T) s' = some r := fun ⟨x, s1, h1, h2, h3⟩ => by
      obtain ⟨T, s', h4, h5⟩ := evOpsD_chain os _ s1 h3
      exact ⟨x :: T, s', ⟨h1, s1, h2, h4⟩, by rw [List.append_assoc] at h5; exact h5⟩
    simp only [evOpsD] at hv
    cases hg : o.guard with
    | none =>
      rw [hg] at hv
      exact fin (rest := evOpsD E all os k) (runOpD_step (by simp only [Wanted, hg]) hv)
    | some gw =>
      obtain ⟨g, want⟩ := gw
      rw [hg] at hv
      simp only at hv
      cases hdst : dstOf all g with
      | none => rw [hdst] at hv; cases hv
      | some d =>
        rw [hdst] at hv
        simp only at hv
        split at hv
        · rename_i b hb
          have hs : ∀ b', b' = b → (⟨upd s.t d (.bool b'), s.h⟩ : St) = s := fun b' he => by subst he; rw [upd_self .u hb]
          cases b
          · cases want
            · simp only [cond_false, cond_true] at hv
              rw [hs false rfl] at hv
              exact fin (rest := evOpsD E all os k) (runOpD_step (by simp only [Wanted, hg]; exact ⟨d, hdst, hb⟩) hv)
            · simp only [cond_false, cond_true] at hv
              rw [hs false rfl] at hv
              exact fin (rest := evOpsD E all os k) (skipD_step (by simp only [Unwanted, hg]; exact ⟨d, hdst, .inl hb⟩) hv)
          · cases want
            · simp only [cond_false, cond_true] at hv
              rw [hs true rfl] at hv
              exact fin (rest := evOpsD E all os k) (skipD_step (by simp only [Unwanted, hg]; exact ⟨d, hdst, .inl hb⟩) hv)
            · simp only [cond_false, cond_true] at hv
              rw [hs true rfl] at hv
              exact fin (rest := evOpsD E all os k) (runOpD_step (by simp only [Wanted, hg]; exact ⟨d, hdst, hb⟩) hv)
        · rename_i hb
          exact fin (rest := evOpsD E all os k) (skipD_step (by simp only [Unwanted, hg]; exact ⟨d, hdst, .inr hb⟩) hv)
        · cases hv

/-- the state ahead of the i-th operation -/
def stA (T : List Tr) (s' : St) (i : Nat) : St := match T[i]? with | some x => x.s | none => s'
theorem chain_get : ∀ {os : List Oper} {T : List Tr} {s s' : St}, Chain E all os T s s' → T.length = os.length ∧ stA T s' 0 = s ∧
    ∀ i o, os[i]? = some o → ∃ x, T[i]? = some x ∧ x.s = stA T s' i ∧ StepD E all o x (stA T s' (i + 1))
  | [], [], s, s', h => ⟨rfl, h.symm, fun i o ho => by simp at ho⟩
  | [], _ :: _, s, s', h => h.elim
  | _ :: _, [], s, s', h => h.elim
  | o :: os, x :: xs, s, s', h => by
    obtain ⟨h1, s1, h2, h3⟩ := h
    obtain ⟨g1, g2, g3⟩ := chain_get h3
    refine ⟨by simp [g1], h1, fun i p hp => ?_⟩
    cases i with
    | zero =>
      simp only [List.getElem?_cons_zero, Option.some.injEq] at hp
      subst hp
      refine ⟨x, rfl, rfl, ?_⟩
      have : stA (x :: xs) s' (0 + 1) = stA xs s' 0 := by simp [stA]
      rw [this, g2]; exact h2
    | succ i =>
      simp only [List.getElem?_cons_succ] at hp
      obtain ⟨y, q1, q2, q3⟩ := g3 i p hp
      refine ⟨y, by simpa using q1, ?_, ?_⟩
      · have : stA (x :: xs) s' (i + 1) = stA xs s' i := by simp [stA]
        rw [this]; exact q2
      · have : stA (x :: xs) s' (i + 1 + 1) = stA xs s' (i + 1) := by simp [stA]
        rw [this]; exact q3

theorem apart_iff : ∀ {xs ys : List Nat}, apart xs ys = true → ∀ x ∈ xs, x ∉ ys
  | [], _, _, x, hx => by simp at hx
  | a :: xs, ys, h, x, hx => by
    simp only [apart, Bool.and_eq_true, Bool.not_eq_true'] at h
    rcases List.mem_cons.1 hx with rfl | hx
    · intro hm; rw [mem_iff.2 hm] at h; exact absurd h.1 (by decide)
    · exact apart_iff h.2 x hx
theorem mem_upTo {a x : Nat} : ∀ {n : Nat}, x ∈ upTo a n ↔ a ≤ x ∧ x < a + n
  | 0 => by simp [upTo]
  | n + 1 => by simp only [upTo, List.mem_append, mem_upTo (n := n), List.mem_singleton]; omega

theorem trFrom_get {a : List (List Nat)} {i : Nat} {x : Tr} : ∀ {ys : List Tr} {j : Nat}, trFrom a i x j ys = true → ∀ k y, ys[k]? = some y → trOk x y (mem i (nth [] a (j + k))) = true
  | [], j, h, k, y, hk => by simp at hk
  | z :: ys, j, h, 0, y, hk => by
    simp only [trFrom, Bool.and_eq_true] at h
    simp only [List.getElem?_cons_zero, Option.some.injEq] at hk
    subst hk; exact h.1
  | z :: ys, j, h, k + 1, y, hk => by
    simp only [trFrom, Bool.and_eq_true] at h
    have := trFrom_get h.2 k y (by simpa using hk)
    rw [show j + (k + 1) = j + 1 + k by omega]; exact this
theorem trsOk_get {a : List (List Nat)} : ∀ {xs : List Tr} {i : Nat}, trsOk a i xs = true → ∀ k l x y, k < l → xs[k]? = some x → xs[l]? = some y → trOk x y (mem (i + k) (nth [] a (i + l))) = true
  | [], i, h, k, l, x, y, hkl, hx, hy => by simp at hx
  | z :: xs, i, h, 0, l + 1, x, y, hkl, hx, hy => by
    simp only [trsOk, Bool.and_eq_true] at h
    simp only [List.getElem?_cons_zero, Option.some.injEq] at hx
    subst hx
    have := trFrom_get h.1 l y (by simpa using hy)
    rw [Nat.add_zero, show i + (l + 1) = i + 1 + l by omega]; exact this
  | z :: xs, i, h, k + 1, l + 1, x, y, hkl, hx, hy => by
    simp only [trsOk, Bool.and_eq_true] at h
    have := trsOk_get h.2 k l x y (by omega) (by simpa using hx) (by simpa using hy)
    rw [show i + (k + 1) = i + 1 + k by omega, show i + (l + 1) = i + 1 + l by omega]; exact this
theorem pairsFrom_get {a : List (List Nat)} {i : Nat} {x : Oper} : ∀ {ys : List Oper} {j : Nat}, pairsFrom all a i x j ys = true → ∀ k y, ys[k]? = some y → pairOk all x y (mem i (nth [] a (j + k))) = true
  | [], j, h, k, y, hk => by simp at hk
  | z :: ys, j, h, 0, y, hk => by
    simp only [pairsFrom, Bool.and_eq_true] at h
    simp only [List.getElem?_cons_zero, Option.some.injEq] at hk
    subst hk; exact h.1
  | z :: ys, j, h, k + 1, y, hk => by
    simp only [pairsFrom, Bool.and_eq_true] at h
    have := pairsFrom_get h.2 k y (by simpa using hk)
    rw [show j + (k + 1) = j + 1 + k by omega]; exact this
theorem staticFrom_get {a : List (List Nat)} (xs : List Oper) : ∀ {i : Nat}, staticFrom all a i xs = true → ∀ k l x y, k < l → xs[k]? = some x → xs[l]? = some y → pairOk all x y (mem (i + k) (nth [] a (i + l))) = true := by
  induction xs with
  | nil => intro i h k l x y hkl hx hy; simp at hx
  | cons z xs ih =>
    intro i h k l x y hkl hx hy
    simp only [staticFrom, Bool.and_eq_true] at h
    obtain ⟨h1, h2⟩ := h
    cases l with
    | zero => omega
    | succ l =>
      simp only [List.getElem?_cons_succ] at hy
      cases k with
      | zero =>
        simp only [List.getElem?_cons_zero, Option.some.injEq] at hx
        subst hx
        have := pairsFrom_get h1 l y hy
        rw [Nat.add_zero, show i + (l + 1) = i + 1 + l by omega]; exact this
      | succ k =>
        simp only [List.getElem?_cons_succ] at hx
        have := ih h2 k l x y (by omega) hx hy
        rw [show i + (k + 1) = i + 1 + k by omega, show i + (l + 1) = i + 1 + l by omega]; exact this
theorem backEdges_get : ∀ {os : List Oper} {n : Nat}, backEdges n os = true → ∀ i o, os[i]? = some o → ∀ e ∈ o.after, binding e.ground = true → e.on < n + i
  | [], n, h, i, o, ho => by simp at ho
  | z :: os, n, h, 0, o, ho => by
    simp only [backEdges, Bool.and_eq_true, List.all_eq_true, Bool.or_eq_true, Bool.not_eq_true'] at h
    simp only [List.getElem?_cons_zero, Option.some.injEq] at ho
    subst ho
    intro e he hb
    have := (h.1 e (by simpa using he)).resolve_left (by simp [hb])
    simpa [Nat.blt_eq] using this
  | z :: os, n, h, i + 1, o, ho => by
    simp only [backEdges, Bool.and_eq_true] at h
    intro e he hb
    have := backEdges_get h.2 i o (by simpa using ho) e he hb
    omega

theorem ancOf_mem {done : List (List Nat)} {i : Nat} : ∀ {es : List Edge}, i ∈ ancOf done es → ∃ e ∈ es, binding e.ground = true ∧ (i = e.on ∨ i ∈ nth [] done e.on)
  | [], h => by simp [ancOf] at h
  | e :: es, h => by
    simp only [ancOf] at h
    cases hb : binding e.ground
    · rw [hb] at h
      obtain ⟨e', h1, h2⟩ := ancOf_mem (es := es) (by simpa using h)
      exact ⟨e', List.mem_cons_of_mem _ h1, h2⟩
    · rw [hb] at h
      simp only [cond_true, List.mem_cons, List.mem_append] at h
      rcases h with h | h | h
      · exact ⟨e, List.mem_cons_self, hb, .inl h⟩
      · exact ⟨e, List.mem_cons_self, hb, .inr h⟩
      · obtain ⟨e', h1, h2⟩ := ancOf_mem h
        exact ⟨e', List.mem_cons_of_mem _ h1, h2⟩
theorem ancs_old : ∀ (os : List Oper) (done : List (List Nat)) (j : Nat), j < done.length → nth [] (ancs os done) j = nth [] done j
  | [], done, j, h => rfl
  | o :: os, done, j, h => by
    simp only [ancs]
    rw [ancs_old os _ j (by simp; omega), nth_append, if_pos h]
theorem ancs_mem : ∀ (os : List Oper) (done : List (List Nat)) (i j : Nat), done.length ≤ j → i ∈ nth [] (ancs os done) j →
    ∃ o, os[j - done.length]? = some o ∧ ∃ e ∈ o.after, binding e.ground = true ∧ (i = e.on ∨ (i ∈ nth [] (ancs os done) e.on ∧ e.on < j))
  | [], done, i, j, hj, h => by simp only [ancs] at h; rw [nth_ge _ _ _ hj] at h; simp at h
  | o :: os, done, i, j, hj, h => by
    simp only [ancs] at h ⊢
    by_cases he : j = done.length
    · subst he
      rw [ancs_old os _ _ (by simp), nth_append, if_neg (by omega), Nat.sub_self] at h
      simp only [nth] at h
      obtain ⟨e, h1, h2, h3⟩ := ancOf_mem h
      refine ⟨o, by simp, e, by simpa using h1, h2, h3.imp id fun h4 => ?_⟩
      have hlt : e.on < done.length := by
        apply Nat.lt_of_not_le
        intro hle
        rw [nth_ge _ _ _ hle] at h4
        simp at h4
      exact ⟨by rw [ancs_old os _ _ (by simp; omega), nth_append, if_pos hlt]; exact h4, hlt⟩
    · obtain ⟨p, h1, h2⟩ := ancs_mem os (done ++ [ancOf done o.after.toList]) i j (by simp; omega) h
      refine ⟨p, ?_, h2⟩
      have : j - done.length = (j - (done ++ [ancOf done o.after.toList]).length) + 1 := by simp; omega
      rw [this, List.getElem?_cons_succ]; exact h1
theorem binds_binding (e : Edge) : Region.binds .any e = binding e.ground := by
  unfold Region.binds binding
  cases e.ground <;> rfl
end
end Go.Ev
/- The engine, part 39: regions, in whatever order their edges allow. -/
namespace Go.Ev
open Go

abbrev ancs' (ops : Array Oper) (j : Nat) : List Nat := nth [] (ancs ops.toList []) j
/-- What is known of a region's run in the order of the text. -/
structure Txt (E : Env) (ops : Array Oper) (T : List Tr) (s0 s' : St) : Prop where
  len : T.length = ops.size
  st0 : stA T s' 0 = s0
  stn : stA T s' ops.size = s'
  get : ∀ (i : Nat) (o : Oper), ops[i]? = some o → ∃ x, T[i]? = some x ∧ x.s = stA T s' i ∧ StepD E ops.toList o x (stA T s' (i + 1))
  back : ∀ (i : Nat) (o : Oper), ops[i]? = some o → ∀ e : Edge, e ∈ o.after → binding e.ground = true → e.on < i
  pair : ∀ (i j : Nat) (x y : Oper), i < j → ops[i]? = some x → ops[j]? = some y → pairOk ops.toList x y (mem i (ancs' ops j)) = true
  trs : ∀ (i j : Nat) (x y : Tr), i < j → T[i]? = some x → T[j]? = some y → trOk x y (mem i (ancs' ops j)) = true

def isBox (h : List AObj) (o : Nat) : Prop := ∃ e row, nth .dead h o = .box e row
abbrev Lst (listed : Array Bool) (i : Nat) : Prop := listed.getD i false = true
structure Inv (ops : Array Oper) (T : List Tr) (s0 s' : St) (listed : Array Bool) (s : St) : Prop where
  size : listed.size = ops.size
  closed : ∀ (j : Nat) (o : Oper), Lst listed j → ops[j]? = some o → ∀ e : Edge, e ∈ o.after → binding e.ground = true → Lst listed e.on
  len : s.t.length = s0.t.length
  hit : ∀ (i : Nat) (o : Oper) (x : Tr) (d : Nat), Lst listed i → ops[i]? = some o → T[i]? = some x → o.dst = some d → d < s0.t.length → nth .u s.t d = x.v
  miss : ∀ d, (∀ (i : Nat) (o : Oper), Lst listed i → ops[i]? = some o → o.dst ≠ some d) → nth .u s.t d = nth .u s0.t d
  heap : ∃ k, k ≤ ops.size ∧ s.h = (stA T s' k).h ∧ ∀ (i : Nat) (x : Tr), T[i]? = some x → x.rdr = false → (Lst listed i ↔ i < k)

section
variable {ρ : Type} {r : ρ} {E : Env} {ops : Array Oper} {T : List Tr} {s0 s' s : St} {listed : Array Bool} {P : Program}

theorem evDraw_txt {k : St → Option ρ} (hv : evDraw1 E ops.toList k s0 = some r) : ∃ T s', Txt E ops T s0 s' ∧ k s' = some r := by
  unfold evDraw1 at hv
  simp only [cond_eq_ite] at hv
  split at hv
  case isFalse => cases hv
  rename_i hs
  obtain ⟨T, s', hc, hk⟩ := evOpsD_chain ops.toList [] s0 hv
  rw [List.nil_append] at hk
  split at hk
  case isFalse => cases hk
  rename_i ht
  obtain ⟨g1, g2, g3⟩ := chain_get hc
  simp only [staticOk, Bool.and_eq_true] at hs
  have hl : T.length = ops.size := by simpa using g1
  refine ⟨T, s', ⟨hl, g2, ?_, fun i o ho => g3 i o (by simpa using ho), fun i o ho e he hb => ?_, fun i j x y hij hx hy => ?_, fun i j x y hij hx hy => ?_⟩, hk⟩
  · unfold stA
    rw [List.getElem?_eq_none (by omega)]
  · have := backEdges_get hs.1 i o (by simpa using ho) e he hb
    omega
  · have := staticFrom_get ops.toList hs.2 i j x y hij (by simpa using hx) (by simpa using hy)
    simpa using this
  · have := trsOk_get ht i j x y hij hx hy
    simpa using this

theorem nth_put {t : List AV} {dst : Option Nat} {v : AV} {d : Nat} : nth .u (put t dst v) d = if dst = some d ∧ d < t.length then v else nth .u t d := by
  cases dst with
  | none => simp [put]
  | some i =>
    simp only [put, nth_upd, Option.some.injEq]
    by_cases h : d = i
    · subst h; simp
    · rw [if_neg (by rintro ⟨rfl, _⟩; exact h rfl), if_neg (by rintro ⟨rfl, _⟩; exact h rfl)]

theorem Txt.uniq (X : Txt E ops T s0 s') {i j : Nat} {x y : Oper} {d : Nat} (hne : i ≠ j) (hx : ops[i]? = some x) (hy : ops[j]? = some y) (hd : x.dst = some d) : y.dst ≠ some d := by
  intro hd'
  have key : ∀ (i j : Nat) (x y : Oper), i < j → ops[i]? = some x → ops[j]? = some y → x.dst = some d → y.dst = some d → False := fun i j x y hij hx hy h1 h2 => by
    have := X.pair i j x y hij hx hy
    simp only [pairOk, h1, h2, dstApart, Bool.and_eq_true, Bool.not_eq_true'] at this
    have h3 := this.1
    simp at h3
  rcases Nat.lt_or_gt_of_ne hne with h | h
  · exact key i j x y h hx hy hd hd'
  · exact key j i y x h hy hx hd' hd
theorem Txt.lt (X : Txt E ops T s0 s') {i : Nat} {x : Tr} (hx : T[i]? = some x) : ∃ o, ops[i]? = some o := by
  have : i < ops.size := by rw [← X.len]; exact (List.getElem?_eq_some_iff.1 hx).1
  exact ⟨ops[i], by simp [this]⟩
theorem Txt.step_t (X : Txt E ops T s0 s') {i : Nat} {o : Oper} {x : Tr} (ho : ops[i]? = some o) (hx : T[i]? = some x) : (stA T s' (i + 1)).t = put (stA T s' i).t o.dst x.v := by
  obtain ⟨x', h1, h2, h3⟩ := X.get i o ho
  obtain rfl : x' = x := by rw [hx] at h1; exact (Option.some.inj h1).symm
  rw [← h2]
  rcases h3 with ⟨h', _, _, he⟩ | ⟨_, _, he⟩ <;> rw [he]
theorem Txt.tLen (X : Txt E ops T s0 s') : ∀ j, j ≤ ops.size → (stA T s' j).t.length = s0.t.length
  | 0, _ => by rw [X.st0]
  | j + 1, h => by
    have ho : ops[j]? = some ops[j] := by simp [show j < ops.size by omega]
    obtain ⟨x, hx, _⟩ := X.get j _ ho
    rw [X.step_t ho hx, put_length, X.tLen j (by omega)]
theorem Txt.tHit (X : Txt E ops T s0 s') {d : Nat} (hd : d < s0.t.length) : ∀ j, j ≤ ops.size → ∀ (i : Nat) (o : Oper) (x : Tr), i < j → ops[i]? = some o → T[i]? = some x → o.dst = some d → nth .u (stA T s' j).t d = x.v
  | 0, _, i, o, x, hi, _, _, _ => by omega
  | j + 1, h, i, o, x, hi, ho, hx, hdst => by
    have hoj : ops[j]? = some ops[j] := by simp [show j < ops.size by omega]
    obtain ⟨y, hy, _⟩ := X.get j _ hoj
    rw [X.step_t hoj hy, nth_put]
    by_cases hij : i = j
    · subst hij
      obtain rfl : ops[i] = o := by rw [hoj] at ho; exact Option.some.inj ho
      obtain rfl : y = x := by rw [hy] at hx; exact Option.some.inj hx
      rw [if_pos ⟨hdst, by rw [X.tLen i (by omega)]; exact hd⟩]
    · rw [if_neg (fun hc => X.uniq hij ho hoj hdst hc.1)]
      exact X.tHit hd j (by omega) i o x (by omega) ho hx hdst
theorem Txt.tMiss (X : Txt E ops T s0 s') {d : Nat} : ∀ j, j ≤ ops.size → (∀ (i : Nat) (o : Oper), i < j → ops[i]? = some o → o.dst ≠ some d) → nth .u (stA T s' j).t d = nth .u s0.t d
  | 0, _, _ => by rw [X.st0]
  | j + 1, h, hm => by
    have hoj : ops[j]? = some ops[j] := by simp [show j < ops.size by omega]
    obtain ⟨y, hy, _⟩ := X.get j _ hoj
    rw [X.step_t hoj hy, nth_put, if_neg (fun hc => hm j _ (by omega) hoj hc.1)]
    exact X.tMiss j (by omega) fun i o hi => hm i o (by omega)
theorem Txt.keepR (X : Txt E ops T s0 s') {i : Nat} {x : Tr} (hx : T[i]? = some x) (hr : x.rdr = true) : (stA T s' (i + 1)).h = (stA T s' i).h := by
  obtain ⟨o, ho⟩ := X.lt hx
  obtain ⟨x', h1, h2, h3⟩ := X.get i o ho
  obtain rfl : x' = x := by rw [hx] at h1; exact (Option.some.inj h1).symm
  rw [← h2]
  rcases h3 with ⟨h', _, R, he⟩ | ⟨_, _, he⟩ <;> rw [he]
  exact (reader_ok (R.rdr ▸ hr) R.op (agree_self _ _ _)).1
theorem Txt.turnW (X : Txt E ops T s0 s') {i : Nat} {x : Tr} (hx : T[i]? = some x) :
    (∀ o, o ∉ x.wr → nth .dead (stA T s' (i + 1)).h o = nth .dead (stA T s' i).h o) ∧ ∀ o, o ∉ x.nw → (isBox (stA T s' i).h o ↔ isBox (stA T s' (i + 1)).h o) := by
  obtain ⟨o, ho⟩ := X.lt hx
  obtain ⟨x', h1, h2, h3⟩ := X.get i o ho
  obtain rfl : x' = x := by rw [hx] at h1; exact (Option.some.inj h1).symm
  rw [← h2]
  rcases h3 with ⟨h', _, R, he⟩ | ⟨_, _, he⟩ <;> rw [he]
  · have t := opA_turned R.op
    refine ⟨fun q hq => ?_, fun q hq => ?_⟩
    · rw [R.wr, List.mem_append, not_or, mem_upTo] at hq
      by_cases hl : q < x'.s.h.length
      · exact t.other q hl hq.1
      · have := t.len
        rw [nth_ge _ _ _ (by simp only; omega), nth_ge _ _ _ (by omega)]
    · rw [R.nw, mem_upTo] at hq
      have := t.len
      refine ⟨fun ⟨e, row, hb⟩ => t.box q e row hb, fun ⟨e, row, hb⟩ => ?_⟩
      have hl : q < h'.length := nth_ne hb (by simp)
      exact t.back q (by omega) e row hb
  · exact ⟨fun _ _ => rfl, fun _ _ => Iff.rfl⟩
theorem Txt.seg (X : Txt E ops T s0 s') {rd rb : List Nat} {a : Nat} : ∀ m, a + m ≤ ops.size → (∀ (i : Nat) (x : Tr), a ≤ i → i < a + m → T[i]? = some x → x.rdr = true ∨ ((∀ o, o ∈ rd → o ∉ x.wr) ∧ ∀ o, o ∈ rb → o ∉ x.nw)) →
    (∀ o, o ∈ rd → nth .dead (stA T s' (a + m)).h o = nth .dead (stA T s' a).h o) ∧ ∀ o, o ∈ rb → (isBox (stA T s' a).h o ↔ isBox (stA T s' (a + m)).h o)
  | 0, _, _ => ⟨fun _ _ => rfl, fun _ _ => Iff.rfl⟩
  | m + 1, hm, hw => by
    obtain ⟨g1, g2⟩ := X.seg m (by omega) fun i x h1 h2 => hw i x h1 (by omega)
    have hlt : a + m < T.length := by rw [X.len]; omega
    have hx : T[a + m]? = some T[a + m] := by simp [hlt]
    rcases hw (a + m) _ (by omega) (by omega) hx with hr | ⟨h1, h2⟩
    · have := X.keepR hx hr
      rw [show a + (m + 1) = a + m + 1 by omega, this]
      exact ⟨g1, g2⟩
    · obtain ⟨t1, t2⟩ := X.turnW hx
      rw [show a + (m + 1) = a + m + 1 by omega]
      exact ⟨fun o ho => (t1 o (h1 o ho)).trans (g1 o ho), fun o ho => (g2 o ho).trans (t2 o (h2 o ho))⟩
theorem Txt.still (X : Txt E ops T s0 s') {a b : Nat} (hab : a ≤ b) (hb : b ≤ ops.size) (hw : ∀ (i : Nat) (x : Tr), a ≤ i → i < b → T[i]? = some x → x.rdr = true) : (stA T s' b).h = (stA T s' a).h := by
  induction b with
  | zero => obtain rfl : a = 0 := by omega
            rfl
  | succ b ih =>
    by_cases he : a = b + 1
    · subst he; rfl
    · have hlt : b < T.length := by rw [X.len]; omega
      have hx : T[b]? = some T[b] := by simp [hlt]
      rw [X.keepR hx (hw b _ (by omega) (by omega) hx)]
      exact ih (by omega) (by omega) fun i x h1 h2 => hw i x h1 (by omega)

theorem lst_set {i j : Nat} (hj : j < listed.size) : Lst (listed.setIfInBounds j true) i ↔ i = j ∨ Lst listed i := by
  unfold Lst
  by_cases h : i = j
  · subst h; simp [hj]
  · rw [getD_set_ne false (Ne.symm h)]; simp [h]
theorem anc_in (X : Txt E ops T s0 s') (hc : ∀ (j : Nat) (o : Oper), Lst listed j → ops[j]? = some o → ∀ e : Edge, e ∈ o.after → binding e.ground = true → Lst listed e.on) :
    ∀ (n j : Nat) (o : Oper), j ≤ n → ops[j]? = some o → (∀ e : Edge, e ∈ o.after → binding e.ground = true → Lst listed e.on) → ∀ i, i ∈ ancs' ops j → Lst listed i := by
  intro n
  induction n with
  | zero =>
    intro j o hj ho hpre i hi
    obtain ⟨p, h1, e, h2, h3, h4⟩ := ancs_mem ops.toList [] i j (Nat.zero_le _) hi
    obtain rfl : p = o := by simp [ho] at h1; exact h1.symm
    rcases h4 with rfl | ⟨_, h5⟩
    · exact hpre e h2 h3
    · omega
  | succ n ih =>
    intro j o hj ho hpre i hi
    obtain ⟨p, h1, e, h2, h3, h4⟩ := ancs_mem ops.toList [] i j (Nat.zero_le _) hi
    obtain rfl : p = o := by simp [ho] at h1; exact h1.symm
    rcases h4 with rfl | ⟨h4, h5⟩
    · exact hpre e h2 h3
    · have hlt : e.on < ops.size := by
        have := (Array.getElem?_eq_some_iff.1 ho).1
        omega
      have hoe : ops[e.on]? = some ops[e.on] := by simp [hlt]
      exact ih e.on _ (by omega) hoe (hc e.on _ (hpre e h2 h3) hoe) i h4
theorem slots_mem {d : Nat} (xs : List Operand) (h : .tmp d ∈ xs) : d ∈ slotsOf xs := by
  induction xs with
  | nil => simp at h
  | cons x xs ih =>
    rcases List.mem_cons.1 h with h | h
    · rw [← h]; exact List.mem_cons_self
    · have := ih h
      cases x with
      | tmp e => exact List.mem_cons_of_mem _ this
      | const v => exact this
      | global g => exact this
      | func f => exact this
theorem Inv.put {j : Nat} {o : Oper} {x : Tr} {h' : List AObj} (X : Txt E ops T s0 s') (I : Inv ops T s0 s' listed s) (hj : listed.getD j true = false) (ho : ops[j]? = some o) (hx : T[j]? = some x)
    (hpre : ∀ e : Edge, e ∈ o.after → binding e.ground = true → Lst listed e.on) (hh : ∃ k, k ≤ ops.size ∧ h' = (stA T s' k).h ∧ ∀ (i : Nat) (x : Tr), T[i]? = some x → x.rdr = false → (Lst (listed.setIfInBounds j true) i ↔ i < k)) :
    Inv ops T s0 s' (listed.setIfInBounds j true) ⟨put s.t o.dst x.v, h'⟩ := by
  have hjs : j < listed.size := by rw [I.size]; exact (Array.getElem?_eq_some_iff.1 ho).1
  have hnj : ¬ Lst listed j := by
    intro hq
    have h1 : listed[j]? = some listed[j] := by simp [hjs]
    simp only [Lst, Array.getD_eq_getD_getElem?, h1, Option.getD_some] at hq hj
    rw [hq] at hj; cases hj
  refine ⟨by simpa using I.size, fun i p hi hp e he hb => ?_, by simp only [put_length]; exact I.len, fun i p y d hi hp hy hd hlt => ?_, fun d hm => ?_, hh⟩
  · rw [lst_set hjs] at hi ⊢
    right
    rcases hi with rfl | hi
    · obtain rfl : p = o := by rw [ho] at hp; exact (Option.some.inj hp).symm
      exact hpre e he hb
    · exact I.closed i p hi hp e he hb
  · rw [lst_set hjs] at hi
    simp only [nth_put]
    rcases hi with rfl | hi
    · obtain rfl : p = o := by rw [ho] at hp; exact (Option.some.inj hp).symm
      obtain rfl : y = x := by rw [hx] at hy; exact (Option.some.inj hy).symm
      rw [if_pos ⟨hd, by rw [I.len]; exact hlt⟩]
    · have hij : i ≠ j := by rintro rfl; exact hnj hi
      rw [if_neg (fun hc => X.uniq hij hp ho hd hc.1)]
      exact I.hit i p y d hi hp hy hd hlt
  · simp only [nth_put]
    rw [if_neg (fun hc => hm j o ((lst_set hjs).2 (.inl rfl)) ho hc.1)]
    exact I.miss d fun i p hi hp => hm i p ((lst_set hjs).2 (.inr hi)) hp

theorem draw_step (X : Txt E ops T s0 s') (I : Inv ops T s0 s' listed s) {j : Nat} (hj : j ∈ Region.ready .any ops listed) : ∃ o x, ops[j]? = some o ∧ T[j]? = some x ∧
    ((Wanted ops.toList o s.t ∧ ∃ h', opA E s.t s.h o.op = some (true, x.v, h') ∧ Inv ops T s0 s' (listed.setIfInBounds j true) ⟨put s.t o.dst x.v, h'⟩) ∨
     (Unwanted ops.toList o s.t ∧ x.v = .tup [] ∧ Inv ops T s0 s' (listed.setIfInBounds j true) ⟨put s.t o.dst x.v, s.h⟩)) := by
  obtain ⟨hjf, o, ho, hpre'⟩ := mem_ready.1 hj
  have hpre : ∀ e : Edge, e ∈ o.after → binding e.ground = true → Lst listed e.on := fun e he hb => hpre' e he (by rw [binds_binding]; exact hb)
  obtain ⟨x, hx, hxs, hst⟩ := X.get j o ho
  have hjn : j < ops.size := (Array.getElem?_eq_some_iff.1 ho).1
  have hjs : j < listed.size := by rw [I.size]; exact hjn
  have hnj : ¬ Lst listed j := by
    intro hq
    have h1 : listed[j]? = some listed[j] := by simp [hjs]
    simp only [Lst, Array.getD_eq_getD_getElem?, h1, Option.getD_some] at hq hjf
    rw [hq] at hjf; cases hjf
  have hanc : ∀ i, i ∈ ancs' ops j → Lst listed i := anc_in X I.closed j j o (Nat.le_refl _) ho hpre
  have hafter : ∀ i, Lst listed i → j ∈ ancs' ops i → False := fun i hi hm => by
    by_cases hin : i < ops.size
    · have hoi : ops[i]? = some ops[i] := by simp [hin]
      exact hnj (anc_in X I.closed i i _ (Nat.le_refl _) hoi (I.closed i _ hi hoi) j hm)
    · simp only [Lst, Array.getD_eq_getD_getElem?] at hi
      rw [Array.getElem?_eq_none (by rw [I.size]; omega)] at hi
      simp at hi
  have looks_eq : ∀ d, d ∈ looks ops.toList o → nth .u s.t d = nth .u (stA T s' j).t d := by
    intro d hd
    by_cases hlt : d < s0.t.length
    case neg => rw [nth_ge _ _ _ (by rw [I.len]; omega), nth_ge _ _ _ (by rw [X.tLen j (by omega)]; omega)]
    by_cases hex : ∃ (i : Nat) (oi : Oper), ops[i]? = some oi ∧ oi.dst = some d
    case neg =>
      have hall : ∀ (i : Nat) (oi : Oper), ops[i]? = some oi → oi.dst ≠ some d := fun i oi h1 h2 => hex ⟨i, oi, h1, h2⟩
      rw [I.miss d fun i oi _ h1 => hall i oi h1, X.tMiss j (by omega) fun i oi _ h1 => hall i oi h1]
    obtain ⟨i, oi, hoi, hdi⟩ := hex
    have other : ∀ (i' : Nat) (oi' : Oper), i' ≠ i → ops[i']? = some oi' → oi'.dst ≠ some d := fun i' oi' hne h1 => X.uniq (Ne.symm hne) hoi h1 hdi
    rcases Nat.lt_trichotomy i j with hij | rfl | hij
    · have hp := X.pair i j oi o hij hoi ho
      have hdin : dstIn oi.dst (looks ops.toList o) = true := by rw [hdi]; simp only [dstIn]; exact mem_iff.2 hd
      simp only [pairOk, hdin, Bool.not_true, Bool.false_and, Bool.or_false, Bool.and_eq_true] at hp
      have hl : Lst listed i := hanc i (mem_iff.1 hp.2)
      obtain ⟨y, hy, _⟩ := X.get i oi hoi
      rw [I.hit i oi y d hl hoi hy hdi hlt, X.tHit hlt j (by omega) i oi y hij hoi hy hdi]
    · rw [I.miss d fun i' oi' h1 h2 => ?_, X.tMiss i (by omega) fun i' oi' h1 h2 => other i' oi' (by omega) h2]
      by_cases he : i' = i
      · subst he; exact absurd h1 hnj
      · exact other i' oi' he h2
    · have hp := X.pair j i o oi hij ho hoi
      have hdin : dstIn oi.dst (looks ops.toList o) = true := by rw [hdi]; simp only [dstIn]; exact mem_iff.2 hd
      simp only [pairOk, hdin, Bool.not_true, Bool.false_and, Bool.and_false, Bool.or_false, Bool.and_eq_true] at hp
      have hni : ¬ Lst listed i := fun hl => hafter i hl (mem_iff.1 hp.2)
      rw [I.miss d fun i' oi' h1 h2 => ?_, X.tMiss j (by omega) fun i' oi' h1 h2 => other i' oi' (by omega) h2]
      by_cases he : i' = i
      · subst he; exact absurd h1 hni
      · exact other i' oi' he h2
  have opd_eq : ∀ y ∈ o.op.operands, opd s.t y = opd (stA T s' j).t y := fun y hy => by
    cases y <;> try rfl
    rename_i d
    exact looks_eq d (List.mem_append_left _ (slots_mem _ (by simpa using hy)))
  have guard_in : ∀ (g : Nat) (want : Bool) (d : Nat), o.guard = some (g, want) → dstOf ops.toList g = some d → d ∈ looks ops.toList o := fun g want d hg hd => by
    unfold looks
    rw [hg]
    simp only [hd]
    exact List.mem_append_right _ (by simp)
  have want_eq : Wanted ops.toList o (stA T s' j).t → Wanted ops.toList o s.t := fun hw => by
    unfold Wanted at hw ⊢
    split <;> rename_i hg
    · trivial
    · rw [hg] at hw
      obtain ⟨d, h1, h2⟩ := hw
      exact ⟨d, h1, by rw [looks_eq d (guard_in _ _ d hg h1)]; exact h2⟩
  have unwant_eq : Unwanted ops.toList o (stA T s' j).t → Unwanted ops.toList o s.t := fun hw => by
    unfold Unwanted at hw ⊢
    split <;> rename_i hg
    · rw [hg] at hw; exact hw
    · rw [hg] at hw
      obtain ⟨d, h1, h2⟩ := hw
      exact ⟨d, h1, by rw [looks_eq d (guard_in _ _ d hg h1)]; exact h2⟩
  obtain ⟨k, hk, hh, hw⟩ := I.heap
  refine ⟨o, x, ho, hx, ?_⟩
  rcases hst with ⟨h', w1, R, he⟩ | ⟨w1, S, he⟩
  · refine .inl ⟨want_eq (hxs ▸ w1), ?_⟩
    have hop := R.op
    rw [hxs, opA_congr (t' := s.t) o.op fun y hy => (opd_eq y hy).symm] at hop
    cases hr : isReader o.op with
    | true =>
      have hxr : x.rdr = true := R.rdr.trans hr
      have hop' := R.op
      rw [hxs] at hop'
      have A : Agree (rdFoot (stA T s' j).t (stA T s' j).h o.op) (rbFoot (stA T s' j).t (stA T s' j).h o.op) (stA T s' j).h s.h := by
        rw [hh]
        have hrd := R.rd
        have hrb := R.rb
        rw [hxs] at hrd hrb
        rw [← hrd, ← hrb]
        rcases Nat.le_total j k with hjk | hjk
        · have := X.seg (rd := x.rd) (rb := x.rb) (a := j) (k - j) (by omega) fun i y h1 h2 hy => ?_
          · rw [show j + (k - j) = k by omega] at this
            exact ⟨this.1, fun q hq e row hb => (this.2 q hq).1 ⟨e, row, hb⟩⟩
          · cases hyr : y.rdr
            case true => exact .inl rfl
            right
            have hl : Lst listed i := (hw i y hy hyr).2 (by omega)
            have hij : j < i := by
              rcases Nat.lt_or_ge j i with h | h
              · exact h
              · obtain rfl : i = j := by omega
                exact absurd hl hnj
            have ht := X.trs j i x y hij hx hy
            have hb : mem j (ancs' ops i) = false := by
              cases hm : mem j (ancs' ops i)
              · rfl
              · exact (hafter i hl (mem_iff.1 hm)).elim
            have hywd : y.wd = true := by
              obtain ⟨oi, hoi⟩ := X.lt hy
              obtain ⟨y', g1, g2, g3⟩ := X.get i oi hoi
              obtain rfl : y' = y := by rw [hy] at g1; exact (Option.some.inj g1).symm
              rcases g3 with ⟨_, _, R', _⟩ | ⟨_, S', _⟩
              · exact R'.wd
              · rw [S'.rdr] at hyr; cases hyr
            simp only [trOk, hb, R.wd, hywd, hxr, hyr, Bool.not_true, Bool.or_self, Bool.false_or, cond_true, Bool.and_eq_true] at ht
            exact ⟨apart_iff ht.1, apart_iff ht.2⟩
        · have := X.seg (rd := x.rd) (rb := x.rb) (a := k) (j - k) (by omega) fun i y h1 h2 hy => ?_
          · rw [show k + (j - k) = j by omega] at this
            exact ⟨fun q hq => (this.1 q hq).symm, fun q hq e row hb => (this.2 q hq).2 ⟨e, row, hb⟩⟩
          · cases hyr : y.rdr
            case true => exact .inl rfl
            right
            have hl : ¬ Lst listed i := fun hq => by have := (hw i y hy hyr).1 hq; omega
            have ht := X.trs i j y x (by omega) hy hx
            have hb : mem i (ancs' ops j) = false := by
              cases hm : mem i (ancs' ops j)
              · rfl
              · exact (hl (hanc i (mem_iff.1 hm))).elim
            have hywd : y.wd = true := by
              obtain ⟨oi, hoi⟩ := X.lt hy
              obtain ⟨y', g1, g2, g3⟩ := X.get i oi hoi
              obtain rfl : y' = y := by rw [hy] at g1; exact (Option.some.inj g1).symm
              rcases g3 with ⟨_, _, R', _⟩ | ⟨_, S', _⟩
              · exact R'.wd
              · rw [S'.rdr] at hyr; cases hyr
            simp only [trOk, hb, R.wd, hywd, hyr, Bool.not_true, Bool.or_self, Bool.false_or, cond_false, Bool.and_eq_true] at ht
            exact ⟨apart_iff ht.1, apart_iff ht.2⟩
      obtain ⟨_, h2⟩ := reader_ok hr hop' A
      rw [opA_congr (t' := s.t) o.op fun y hy => (opd_eq y hy).symm] at h2
      refine ⟨s.h, h2, I.put X hjf ho hx hpre ⟨k, hk, hh, fun i y hy hyr => ?_⟩⟩
      rw [lst_set hjs, ← hw i y hy hyr]
      refine ⟨fun h => h.resolve_left ?_, .inr⟩
      rintro rfl
      rw [hx] at hy
      obtain rfl := Option.some.inj hy
      rw [hxr] at hyr; cases hyr
    | false =>
      have hxr : x.rdr = false := R.rdr.trans hr
      have notboth : ∀ (i j : Nat) (p q : Oper) (x y : Tr), i < j → ops[i]? = some p → ops[j]? = some q → T[i]? = some x → T[j]? = some y → x.rdr = false → y.rdr = false → i ∈ ancs' ops j := fun i j p q x y hij hp hq hx hy hxr hyr => by
        have pr := X.pair i j p q hij hp hq
        obtain ⟨x', a1, a2, a3⟩ := X.get i p hp
        obtain rfl : x' = x := by rw [hx] at a1; exact (Option.some.inj a1).symm
        obtain ⟨y', b1, b2, b3⟩ := X.get j q hq
        obtain rfl : y' = y := by rw [hy] at b1; exact (Option.some.inj b1).symm
        have e1 : isReader p.op = false := by
          rcases a3 with ⟨_, _, R', _⟩ | ⟨_, S', _⟩
          · rw [← R'.rdr]; exact hxr
          · rw [S'.rdr] at hxr; cases hxr
        have e2 : isReader q.op = false := by
          rcases b3 with ⟨_, _, R', _⟩ | ⟨_, S', _⟩
          · rw [← R'.rdr]; exact hyr
          · rw [S'.rdr] at hyr; cases hyr
        simp only [pairOk, e1, e2, Bool.or_self, Bool.and_false, Bool.or_false, Bool.and_eq_true] at pr
        exact mem_iff.1 pr.2
      have hkj : k ≤ j := by
        rcases Nat.lt_or_ge j k with h | h
        · exact absurd ((hw j x hx hxr).2 h) hnj
        · exact h
      have same : s.h = (stA T s' j).h := by
        rw [hh]
        refine (X.still hkj (by omega) fun i y h1 h2 hy => ?_).symm
        cases hyr : y.rdr
        · obtain ⟨oi, hoi⟩ := X.lt hy
          have := hanc i (notboth i j oi o y x h2 hoi ho hy hx hyr hxr)
          have := (hw i y hy hyr).1 this
          omega
        · rfl
      refine ⟨h', by rw [same]; exact hop, I.put X hjf ho hx hpre ⟨j + 1, hjn, by rw [he], fun i y hy hyr => ?_⟩⟩
      rw [lst_set hjs]
      constructor
      · rintro (rfl | h)
        · omega
        · have := (hw i y hy hyr).1 h; omega
      · intro h
        rcases Nat.lt_or_ge i j with hij | hij
        · obtain ⟨oi, hoi⟩ := X.lt hy
          exact .inr (hanc i (notboth i j oi o y x hij hoi ho hy hx hyr hxr))
        · exact .inl (by omega)
  · refine .inr ⟨unwant_eq (hxs ▸ w1), S.v, I.put X hjf ho hx hpre ⟨k, hk, hh, fun i y hy hyr => ?_⟩⟩
    rw [lst_set hjs, ← hw i y hy hyr]
    refine ⟨fun h => h.resolve_left ?_, .inr⟩
    rintro rfl
    rw [hx] at hy
    obtain rfl := Option.some.inj hy
    rw [S.rdr] at hyr; cases hyr
end
end Go.Ev
/- The engine, part 40: regions whose order is drawn; every evaluated call is one of the machine's. -/
namespace Go.Ev
open Go

section
variable {P : Program} {C0 C C' : Cx} {h0 h h' : List AObj} {t : List AV} {a : Act} {nt : Nat} {ρ : Type} {r : ρ} {E : Env} {ops : Array Oper} {T : List Tr} {s0 s' s : St} {listed : Array Bool}

theorem wanted_true {o : Oper} (R : TRel C h t a) (hw : Wanted ops.toList o t) : Region.wanted o (yielded ops a.tmps) = true := by
  unfold Wanted at hw
  split at hw
  · rename_i hg; simp [Region.wanted, hg]
  · rename_i g want hg
    obtain ⟨d, h1, h2⟩ := hw
    rw [guard_ok hg h1]
    obtain ⟨v, g1, g2⟩ := trel_get R (nth_ne h2 (by simp))
    rw [h2] at g2
    simp only [VRel] at g2
    subst g2
    rw [g1]
    simp
theorem wanted_false {o : Oper} (R : TRel C h t a) (hw : Unwanted ops.toList o t) : Region.wanted o (yielded ops a.tmps) = false := by
  unfold Unwanted at hw
  split at hw
  · exact hw.elim
  · rename_i g want hg
    obtain ⟨d, h1, h2⟩ := hw
    rw [guard_ok hg h1]
    rcases h2 with h2 | h2
    · obtain ⟨v, g1, g2⟩ := trel_get R (nth_ne h2 (by simp))
      rw [h2] at g2
      simp only [VRel] at g2
      subst g2
      rw [g1]
      cases want <;> rfl
    · obtain ⟨v, g1, g2⟩ := trel_get R (nth_ne h2 (by simp))
      rw [h2] at g2
      simp only [VRel, LRel] at g2
      obtain ⟨vs, rfl, rfl⟩ := g2
      rw [g1]
theorem srel_drew (R : SRel nt C0 h0 C s a) : ∃ C', C'.w = { C.w with drawn := C.w.drawn + 1 } ∧ SRel nt C0 h0 C' s a := by
  have E1 : Ext C s.h { C with w := { C.w with drawn := C.w.drawn + 1 } } s.h := by
    refine ⟨rfl, fun t b x hq => ⟨hq, rfl⟩, Nat.le_refl _, fun o _ => ?_⟩
    cases nth .dead s.h o <;> simp
  refine ⟨{ C with w := { C.w with drawn := C.w.drawn + 1 } }, rfl, R.step.trans ⟨E1, rfl, rfl, rfl, Nat.le_refl _, fun _ _ _ => rfl, fun o ho hl => .inl ⟨o, ho, hl, rfl⟩, fun _ _ _ h => .inl h⟩, ⟨fun o ho => hobj_ext E1 (R.h.obj o ho) rfl rfl (fun _ => rfl) (fun _ _ _ hq => hq), fun o o' h1 h2 h3 h4 h5 => R.h.inj o o' h1 h2 h3 h4 h5, fun t b x hq => R.h.fix t b x hq⟩, ⟨R.t.1, fun i => vrel_ext E1 (R.t.2 i)⟩, R.d⟩
theorem cnt_set : ∀ (l : List Bool) (j : Nat), l[j]? = some false → (l.set j true).count false + 1 = l.count false
  | [], j, h => by simp at h
  | b :: l, 0, h => by simp at h; subst h; simp
  | b :: l, j + 1, h => by
    have := cnt_set l j (by simpa using h)
    simp only [List.set_cons_succ, List.count_cons]
    omega
theorem ready_get {j : Nat} (hj : j ∈ Region.ready .any ops listed) : listed[j]? = some false := by
  have h1 := (mem_ready.1 hj).1
  rw [Array.getD_eq_getD_getElem?] at h1
  cases hq : listed[j]? with
  | none => rw [hq] at h1; simp at h1
  | some b => rw [hq] at h1; simp only [Option.getD_some] at h1; rw [h1]
theorem all_done (X : Txt E ops T s0 s') (I : Inv ops T s0 s' listed s) (hr : Region.ready .any ops listed = []) : s = s' := by
  have all : ∀ n i, i ≤ n → i < ops.size → Lst listed i := by
    intro n
    induction n using Nat.strongRecOn with
    | _ n ih =>
      intro i hi hlt
      have ho : ops[i]? = some ops[i] := by simp [hlt]
      have hnot : i ∉ Region.ready .any ops listed := by rw [hr]; simp
      rw [mem_ready] at hnot
      have hpre : ∀ e ∈ (ops[i]).after, Region.binds .any e = true → listed.getD e.on false = true := fun e he hb => by
        have := X.back i _ ho e he (by rw [← binds_binding]; exact hb)
        exact ih e.on (by omega) e.on (Nat.le_refl _) (by omega)
      have hg : ¬ listed.getD i true = false := fun hq => hnot ⟨hq, _, ho, hpre⟩
      have hls : i < listed.size := by rw [I.size]; exact hlt
      have h1 : listed[i]? = some listed[i] := by simp [hls]
      unfold Lst
      rw [Array.getD_eq_getD_getElem?, h1] at hg ⊢
      simpa using hg
  have full : ∀ i, i < ops.size → Lst listed i := fun i hi => all i i (Nat.le_refl _) hi
  have hh : s.h = s'.h := by
    obtain ⟨k, hk, h1, h2⟩ := I.heap
    rw [h1, ← X.stn, X.stn]
    have := X.still hk (Nat.le_refl _) fun i x g1 g2 g3 => by
      cases hx : x.rdr
      · have := (h2 i x g3 hx).1 (full i g2); omega
      · rfl
    rw [← this, X.stn]
  have ht : s.t = s'.t := by
    have hlen : s.t.length = s'.t.length := by rw [I.len, ← X.tLen ops.size (Nat.le_refl _), X.stn]
    have ext : ∀ {xs ys : List AV}, xs.length = ys.length → (∀ d, nth .u xs d = nth .u ys d) → xs = ys := fun {xs ys} hl hn => by
      apply List.ext_getElem? 
      intro d
      have := hn d
      rw [nth_getElem?, nth_getElem?] at this
      by_cases hd : d < xs.length
      · have h1 : xs[d]? = some xs[d] := by simp [hd]
        have h2 : ys[d]? = some (ys[d]'(by omega)) := by simp
        rw [h1, h2] at this ⊢
        simpa using this
      · rw [List.getElem?_eq_none (by omega), List.getElem?_eq_none (by omega)]
    refine ext hlen fun d => ?_
    by_cases hd : d < s0.t.length
    case neg => rw [nth_ge _ _ _ (by rw [I.len]; omega), nth_ge _ _ _ (by rw [← hlen, I.len]; omega)]
    rw [show s'.t = (stA T s' ops.size).t by rw [X.stn]]
    by_cases hex : ∃ (i : Nat) (oi : Oper), ops[i]? = some oi ∧ oi.dst = some d
    · obtain ⟨i, oi, hoi, hdi⟩ := hex
      obtain ⟨y, hy, _⟩ := X.get i oi hoi
      have hi : i < ops.size := (Array.getElem?_eq_some_iff.1 hoi).1
      rw [I.hit i oi y d (full i hi) hoi hy hdi hd, X.tHit hd ops.size (Nat.le_refl _) i oi y hi hoi hy hdi]
    · have hall : ∀ (i : Nat) (oi : Oper), ops[i]? = some oi → oi.dst ≠ some d := fun i oi h1 h2 => hex ⟨i, oi, h1, h2⟩
      rw [I.miss d fun i oi _ h1 => hall i oi h1, X.tMiss ops.size (Nat.le_refl _) fun i oi _ h1 => hall i oi h1]
  cases s; cases s'; simp_all
theorem draw_any {Q : Exit → Act → World → Prop} {k : St → Option ρ} (LK : LOk P C0.L) (hE : C0.L = E.L) (HC : CallAOk P E) (hk : KOk E.nt C0 h0 r k (Q .normal)) (X : Txt E ops T s0 s') (hr : k s' = some r) :
    ∀ (fuel : Nat) (listed : Array Bool) (C : Cx) (s : St) (a : Act), listed.toList.count false ≤ fuel → Inv ops T s0 s' listed s → SRel E.nt C0 h0 C s a → wpAny P .any ops Q fuel listed a C.w := by
  have done : ∀ {listed : Array Bool} {C : Cx} {s : St} {a : Act}, Inv ops T s0 s' listed s → SRel E.nt C0 h0 C s a → Region.ready .any ops listed = [] → Q .normal a C.w := fun {listed C s a} I R hq => by
    have := all_done X I hq
    subst this
    exact hk C _ a R hr
  intro fuel
  induction fuel with
  | zero =>
    intro listed C s a hc I R
    have hnil : Region.ready .any ops listed = [] := by
      cases hq : Region.ready .any ops listed with
      | nil => rfl
      | cons j js =>
        have h1 := ready_get (ops := ops) (listed := listed) (j := j) (by rw [hq]; exact List.mem_cons_self)
        have h2 : false ∈ listed.toList := List.mem_of_getElem? (by simpa using h1)
        have := List.count_pos_iff.2 h2
        omega
    exact ⟨hnil, done I R hnil⟩
  | succ fuel ih =>
    intro listed C s a hc I R
    refine ⟨fun hq => done I R hq, fun j hj => ?_⟩
    obtain ⟨o, x, ho, hx, hs⟩ := draw_step X I hj
    have hcnt : (listed.setIfInBounds j true).toList.count false ≤ fuel := by
      have := cnt_set listed.toList j (by simpa using ready_get hj)
      rw [Array.toList_setIfInBounds]
      omega
    have hL : C.L = C0.L := R.step.ext.L
    unfold wpOp
    simp only [ho]
    rcases hs with ⟨hw, h', hop, I'⟩ | ⟨hw, hv, I'⟩
    · rw [wanted_true R.t hw, if_pos rfl]
      refine .inl (op_ok (o := o) (by rw [hL]; exact LK) (hL.trans hE) HC R.h R.t hop _ _ fun C' y s1 H1 v1 => ?_)
      exact ih _ C' _ _ hcnt I' ⟨R.step.trans s1, H1, trel_put ⟨R.t.1, fun i => vrel_ext s1.ext (R.t.2 i)⟩ o.dst v1, by rw [put_defers']; exact R.d⟩
    · rw [wanted_false R.t hw, if_neg (by decide)]
      rw [hv] at I'
      exact ih _ C _ _ hcnt I' ⟨R.step, R.h, trel_put R.t o.dst (by simp only [VRel]; exact ⟨[], rfl, by simp only [LRel]⟩), by rw [put_defers']; exact R.d⟩
end

/-! ### Regions in which operations that lay objects are not in a chain -/
section
variable {ρ : Type} {r : ρ} {E : Env} {P : Program} {nt : Nat}

theorem both_some {a b : Option ρ} (h : both a b = some r) : a = some r ∧ b = some r := by
  unfold both at h
  split at h
  · rename_i hab; exact ⟨h, hab ▸ h⟩
  · cases h
theorem both_self (a : Option ρ) : both a a = a := by unfold both; exact if_pos rfl

theorem posOf_lt : ∀ {ord : List Nat} {i : Nat}, i ∈ ord → posOf i ord < ord.length ∧ ord[posOf i ord]? = some i
  | x :: xs, i, h => by
    simp only [posOf, cond_eq_ite]
    split
    · rename_i hq
      obtain rfl := Nat.eq_of_beq_eq_true hq
      exact ⟨by simp, rfl⟩
    · rename_i hq
      have hne : i ≠ x := fun he => hq (by rw [he]; exact Nat.beq_refl x)
      have := posOf_lt (List.mem_of_ne_of_mem hne h)
      exact ⟨by simp only [List.length_cons]; omega, by rw [List.getElem?_cons_succ]; exact this.2⟩
theorem posOf_not : ∀ {ord : List Nat} {i : Nat}, i ∉ ord → posOf i ord = ord.length
  | [], i, _ => rfl
  | x :: xs, i, h => by
    simp only [List.mem_cons, not_or] at h
    have hq : Nat.beq i x = false := by
      cases hb : Nat.beq i x
      · rfl
      · exact absurd (Nat.eq_of_beq_eq_true hb) h.1
    simp only [posOf, hq, cond_false, posOf_not h.2, List.length_cons]
theorem noDup_iff : ∀ {l : List Nat}, noDup l = true → l.Nodup
  | [], _ => List.nodup_nil
  | x :: xs, h => by
    simp only [noDup, Bool.and_eq_true] at h
    refine List.nodup_cons.2 ⟨fun hm => ?_, noDup_iff h.2⟩
    have h1 := h.1
    have : noDup.inL x xs = true := by
      have : ∀ (l : List Nat), x ∈ l → noDup.inL x l = true := by
        intro l
        induction l with
        | nil => intro hq; simp at hq
        | cons y ys ih =>
          intro hq
          simp only [noDup.inL, Bool.or_eq_true]
          rcases List.mem_cons.1 hq with rfl | hq
          · exact .inl (Nat.beq_refl _)
          · exact .inr (ih hq)
      exact this xs hm
    rw [this] at h1
    cases h1
theorem lenIs_len {α : Type} : ∀ {l : List α} {n : Nat}, lenIs l n = true → l.length = n
  | [], 0, _ => rfl
  | x :: xs, n + 1, h => by simp only [lenIs] at h; simp [lenIs_len h]
/-- an order of all of a region's operations -/
structure Ord (n : Nat) (ord : List Nat) : Prop where
  len : ord.length = n
  nd : ord.Nodup
  lt : ∀ i ∈ ord, i < n
theorem ord_of {n : Nat} {ord : List Nat} (h : permOk n ord = true) : Ord n ord := by
  simp only [permOk, Bool.and_eq_true, List.all_eq_true, nblt] at h
  exact ⟨lenIs_len h.1.1, noDup_iff h.1.2, h.2⟩
theorem nodup_len : ∀ (n : Nat) (l : List Nat), l.Nodup → (∀ i ∈ l, i < n) → l.length ≤ n
  | 0, l, _, h => by
    cases l with
    | nil => exact Nat.le_refl _
    | cons x xs => exact absurd (h x List.mem_cons_self) (Nat.not_lt_zero _)
  | n + 1, l, hn, h => by
    have h1 := nodup_len n (l.erase n) (hn.erase n) fun i hi => by
      have h2 := (hn.mem_erase_iff).1 hi
      have := h i h2.2
      omega
    have h2 : l.length ≤ (l.erase n).length + 1 := by
      by_cases hm : n ∈ l
      · rw [List.length_erase_of_mem hm]; omega
      · rw [List.erase_of_not_mem hm]; omega
    omega
theorem Ord.all {n : Nat} {ord : List Nat} (O : Ord n ord) {i : Nat} (hi : i < n) : i ∈ ord := by
  apply Classical.byContradiction
  intro hm
  have := nodup_len n (i :: ord) (List.nodup_cons.2 ⟨hm, O.nd⟩) fun q hq => by
    rcases List.mem_cons.1 hq with rfl | hq
    · exact hi
    · exact O.lt q hq
  rw [List.length_cons, O.len] at this
  omega
theorem Ord.pos {n : Nat} {ord : List Nat} (O : Ord n ord) {p i : Nat} (h : ord[p]? = some i) : posOf i ord = p := by
  have h1 := posOf_lt (List.mem_of_getElem? h)
  have hp := (List.getElem?_eq_some_iff.1 h).1
  exact (List.getElem?_inj hp O.nd).1 (h.trans h1.2.symm) |>.symm
end
section
variable {ρ : Type} {r : ρ} {E : Env} {P : Program} {nt : Nat} {ops : Array Oper} {ex : List (Nat × Nat)} {ord : List Nat} {listed : Array Bool} {T : List Tr} {s0 s' s : St}

abbrev permA (ops : Array Oper) (ex : List (Nat × Nat)) (ord : List Nat) : Array Oper := (permOps ops.toList ex ord ord).toArray
def listedP (ord : List Nat) (listed : Array Bool) : Array Bool := (ord.map fun i => listed.getD i false).toArray
theorem permOps_get {ops : List Oper} : ∀ (is : List Nat), (∀ i ∈ is, i < ops.length) → (permOps ops ex ord is).length = is.length ∧ ∀ (p i : Nat), is[p]? = some i → ∃ o, ops[i]? = some o ∧ (permOps ops ex ord is)[p]? = some (renOper ex ord i o)
  | [], _ => ⟨rfl, fun p i h => by simp at h⟩
  | x :: xs, h => by
    have hx := h x List.mem_cons_self
    have h1 : ops[x]? = some ops[x] := List.getElem?_eq_getElem hx
    obtain ⟨g1, g2⟩ := permOps_get (ops := ops) xs fun i hi => h i (List.mem_cons_of_mem _ hi)
    simp only [permOps, h1]
    refine ⟨by simp [g1], fun p i hp => ?_⟩
    cases p with
    | zero => simp only [List.getElem?_cons_zero, Option.some.injEq] at hp; subst hp; exact ⟨_, h1, rfl⟩
    | succ p =>
      obtain ⟨o, k1, k2⟩ := g2 p i (by simpa using hp)
      exact ⟨o, k1, by simpa using k2⟩
theorem permA_get (O : Ord ops.size ord) {p i : Nat} (hp : ord[p]? = some i) : ∃ o, ops[i]? = some o ∧ (permA ops ex ord)[p]? = some (renOper ex ord i o) := by
  obtain ⟨o, h1, h2⟩ := (permOps_get (ex := ex) (ord := ord) (ops := ops.toList) ord (fun i hi => by simpa using O.lt i hi)).2 p i hp
  exact ⟨o, by simpa using h1, by simpa using h2⟩
theorem permA_size (O : Ord ops.size ord) : (permA ops ex ord).size = ops.size := by
  have := (permOps_get (ex := ex) (ord := ord) (ops := ops.toList) ord (fun i hi => by simpa using O.lt i hi)).1
  simp [this, O.len]
theorem lstP {p i : Nat} (h : ord[p]? = some i) : Lst (listedP ord listed) p ↔ Lst listed i := by
  unfold Lst listedP
  simp only [Array.getD_eq_getD_getElem?, List.getElem?_toArray, List.getElem?_map, h, Option.map_some, Option.getD_some]
theorem lstP_lt {p : Nat} (h : Lst (listedP ord listed) p) : ∃ i, ord[p]? = some i := by
  unfold Lst listedP at h
  simp only [Array.getD_eq_getD_getElem?, List.getElem?_toArray, List.getElem?_map] at h
  cases hq : ord[p]? with
  | none => rw [hq] at h; simp at h
  | some i => exact ⟨i, rfl⟩
theorem lstP_pos (O : Ord ops.size ord) {i : Nat} : Lst (listedP ord listed) (posOf i ord) ↔ (i ∈ ord ∧ Lst listed i) := by
  by_cases hi : i ∈ ord
  · rw [lstP (posOf_lt hi).2]; exact ⟨fun h => ⟨hi, h⟩, fun h => h.2⟩
  · refine ⟨fun h => ?_, fun h => absurd h.1 hi⟩
    obtain ⟨q, hq⟩ := lstP_lt h
    rw [posOf_not hi, List.getElem?_eq_none (Nat.le_refl _)] at hq
    cases hq
theorem Inv.congr {l l' : Array Bool} (hs : l'.size = l.size) (h : ∀ i, Lst l' i ↔ Lst l i) (I : Inv ops T s0 s' l s) : Inv ops T s0 s' l' s := by
  refine ⟨by rw [hs]; exact I.size, fun j o hj ho e he hb => (h _).2 (I.closed j o ((h _).1 hj) ho e he hb), I.len, fun i o x d hi => I.hit i o x d ((h _).1 hi), fun d hm => I.miss d fun i o hi => hm i o ((h _).2 hi), ?_⟩
  obtain ⟨k, h1, h2, h3⟩ := I.heap
  exact ⟨k, h1, h2, fun i x hx hr => (h i).trans (h3 i x hx hr)⟩
theorem renEdges_mem {e' : Edge} : ∀ {es : List Edge}, e' ∈ renEdges ord es → ∃ e ∈ es, binding e.ground = true ∧ e' = ⟨posOf e.on ord, .data⟩
  | [], h => by simp [renEdges] at h
  | e :: es, h => by
    simp only [renEdges] at h
    cases hb : binding e.ground
    · rw [hb, cond_false] at h
      obtain ⟨e1, h1, h2⟩ := renEdges_mem h
      exact ⟨e1, List.mem_cons_of_mem _ h1, h2⟩
    · rw [hb, cond_true] at h
      rcases List.mem_cons.1 h with h | h
      · exact ⟨e, List.mem_cons_self, hb, h⟩
      · obtain ⟨e1, h1, h2⟩ := renEdges_mem h
        exact ⟨e1, List.mem_cons_of_mem _ h1, h2⟩
theorem mem_renEdges {e : Edge} (hb : binding e.ground = true) : ∀ {es : List Edge}, e ∈ es → (⟨posOf e.on ord, .data⟩ : Edge) ∈ renEdges ord es
  | x :: es, h => by
    simp only [renEdges]
    rcases List.mem_cons.1 h with rfl | h
    · rw [hb, cond_true]; exact List.mem_cons_self
    · have := mem_renEdges hb h
      cases binding x.ground
      · exact this
      · exact List.mem_cons_of_mem _ this
theorem exEdges_mem {e' : Edge} {i : Nat} : ∀ {ex : List (Nat × Nat)}, e' ∈ exEdges ord i ex → ∃ a, (a, i) ∈ ex ∧ e' = ⟨posOf a ord, .data⟩
  | [], h => by simp [exEdges] at h
  | (a, b) :: ex, h => by
    simp only [exEdges, cond_eq_ite] at h
    split at h
    · rename_i hq
      obtain rfl := Nat.eq_of_beq_eq_true hq
      rcases List.mem_cons.1 h with h | h
      · exact ⟨a, List.mem_cons_self, h⟩
      · obtain ⟨a', h1, h2⟩ := exEdges_mem h
        exact ⟨a', List.mem_cons_of_mem _ h1, h2⟩
    · obtain ⟨a', h1, h2⟩ := exEdges_mem h
      exact ⟨a', List.mem_cons_of_mem _ h1, h2⟩
theorem ren_after {i : Nat} {o : Oper} {e' : Edge} : e' ∈ (renOper ex ord i o).after ↔ e' ∈ renEdges ord o.after.toList ∨ e' ∈ exEdges ord i ex := by
  simp [renOper]
theorem lst_lt {i : Nat} (h : Lst listed i) : i < listed.size := by
  apply Nat.lt_of_not_le
  intro hle
  simp only [Lst, Array.getD_eq_getD_getElem?, Array.getElem?_eq_none hle, Option.getD_none] at h
  cases h
theorem ready_perm (O : Ord ops.size ord) (hs : listed.size = ops.size) {j : Nat} (hj : j ∈ Region.ready .any ops listed) (hex : ∀ a, (a, j) ∈ ex → Lst listed a) :
    posOf j ord ∈ Region.ready .any (permA ops ex ord) (listedP ord listed) := by
  obtain ⟨h1, o, ho, hpre⟩ := mem_ready.1 hj
  have hjn : j < ops.size := (Array.getElem?_eq_some_iff.1 ho).1
  have hp := (posOf_lt (O.all hjn)).2
  obtain ⟨o', ho', hP⟩ := permA_get (ex := ex) O hp
  obtain rfl : o' = o := by rw [ho] at ho'; exact (Option.some.inj ho').symm
  have hlj : listed[j]? = some false := ready_get hj
  refine mem_ready.2 ⟨?_, _, hP, fun e he hb => ?_⟩
  · unfold listedP
    simp only [Array.getD_eq_getD_getElem?, List.getElem?_toArray, List.getElem?_map, hp, Option.map_some, Option.getD_some, hlj]
  · rcases ren_after.1 he with h | h
    · obtain ⟨e1, g1, g2, rfl⟩ := renEdges_mem h
      have h2 : Lst listed e1.on := hpre e1 (by simpa using g1) (by rw [binds_binding]; exact g2)
      exact (lstP_pos (ops := ops) O).2 ⟨O.all (hs ▸ lst_lt h2), h2⟩
    · obtain ⟨a, g1, rfl⟩ := exEdges_mem h
      exact (lstP_pos (ops := ops) O).2 ⟨O.all (hs ▸ lst_lt (hex a g1)), hex a g1⟩
theorem ready_back (O : Ord ops.size ord) (hs : listed.size = ops.size) (hr : Region.ready .any ops listed = []) : Region.ready .any (permA ops ex ord) (listedP ord listed) = [] := by
  cases hq : Region.ready .any (permA ops ex ord) (listedP ord listed) with
  | nil => rfl
  | cons p ps =>
    exfalso
    have hp : p ∈ Region.ready .any (permA ops ex ord) (listedP ord listed) := by rw [hq]; exact List.mem_cons_self
    obtain ⟨h1, oP, hoP, hpre⟩ := mem_ready.1 hp
    have hpn : p < ops.size := by rw [← permA_size (ex := ex) O]; exact (Array.getElem?_eq_some_iff.1 hoP).1
    obtain ⟨i, hpo⟩ : ∃ i, ord[p]? = some i := ⟨_, List.getElem?_eq_getElem (by rw [O.len]; exact hpn)⟩
    obtain ⟨o, ho, hP⟩ := permA_get (ex := ex) O hpo
    obtain rfl : oP = renOper ex ord i o := by rw [hoP] at hP; exact Option.some.inj hP
    have hin : i ∈ Region.ready .any ops listed := by
      refine mem_ready.2 ⟨?_, o, ho, fun e he hb => ?_⟩
      · have hlt : i < listed.size := by rw [hs]; exact (Array.getElem?_eq_some_iff.1 ho).1
        have h2 : listed[i]? = some listed[i] := by simp [hlt]
        unfold listedP at h1
        simp only [Array.getD_eq_getD_getElem?, List.getElem?_toArray, List.getElem?_map, hpo, Option.map_some, Option.getD_some, h2] at h1 ⊢
        exact h1
      · have h2 := hpre ⟨posOf e.on ord, .data⟩ (ren_after.2 (.inl (mem_renEdges (by rw [← binds_binding]; exact hb) (by simpa using he)))) rfl
        exact ((lstP_pos (ops := ops) O).1 h2).2
    rw [hr] at hin
    simp at hin
theorem guard_back (O : Ord ops.size ord) {g d : Nat} (h : dstOf (permA ops ex ord).toList (posOf g ord) = some d) : dstOf ops.toList g = some d := by
  by_cases hg : g ∈ ord
  · obtain ⟨o, ho, hP⟩ := permA_get (ex := ex) O (posOf_lt hg).2
    unfold dstOf at h ⊢
    rw [Array.getElem?_toList] at h ⊢
    rw [hP] at h
    rw [ho]
    exact h
  · rw [posOf_not hg] at h
    unfold dstOf at h
    rw [Array.getElem?_toList, Array.getElem?_eq_none (by rw [permA_size O, O.len]; exact Nat.le_refl _)] at h
    cases h
theorem wanted_back (O : Ord ops.size ord) {i : Nat} {o : Oper} {t : List AV} (h : Wanted (permA ops ex ord).toList (renOper ex ord i o) t) : Wanted ops.toList o t := by
  unfold Wanted renOper at h
  unfold Wanted
  cases hg : o.guard with
  | none => trivial
  | some gw =>
    obtain ⟨g, w⟩ := gw
    rw [hg] at h
    obtain ⟨d, h1, h2⟩ := h
    exact ⟨d, guard_back O h1, h2⟩
theorem unwanted_back (O : Ord ops.size ord) {i : Nat} {o : Oper} {t : List AV} (h : Unwanted (permA ops ex ord).toList (renOper ex ord i o) t) : Unwanted ops.toList o t := by
  unfold Unwanted renOper at h
  unfold Unwanted
  cases hg : o.guard with
  | none => rw [hg] at h; exact h
  | some gw =>
    obtain ⟨g, w⟩ := gw
    rw [hg] at h
    obtain ⟨d, h1, h2⟩ := h
    exact ⟨d, guard_back O h1, h2⟩
theorem listedP_set (O : Ord ops.size ord) (hs : listed.size = ops.size) {j : Nat} (hj : j < ops.size) (i : Nat) : Lst (listedP ord (listed.setIfInBounds j true)) i ↔ Lst ((listedP ord listed).setIfInBounds (posOf j ord) true) i := by
  have hp := posOf_lt (O.all hj)
  have hps : posOf j ord < (listedP ord listed).size := by simp [listedP]; exact hp.1
  rw [lst_set hps]
  by_cases hi : i < ord.length
  · have h1 : ord[i]? = some ord[i] := List.getElem?_eq_getElem hi
    rw [lstP h1, lstP h1, lst_set (by rw [hs]; exact hj)]
    constructor
    · rintro (h | h)
      · exact .inl (by rw [← h, O.pos h1])
      · exact .inr h
    · rintro (h | h)
      · left
        have h2 : ord[i]? = some j := by rw [h]; exact hp.2
        rw [h1] at h2; exact Option.some.inj h2
      · exact .inr h
  · have hno : ∀ l : Array Bool, ¬ Lst (listedP ord l) i := fun l h => by
      obtain ⟨q, hq⟩ := lstP_lt h
      rw [List.getElem?_eq_none (by omega)] at hq
      cases hq
    exact ⟨fun h => (hno _ h).elim, fun h => h.elim (fun h => by omega) fun h => (hno _ h).elim⟩

/-- The ways that are still open. -/
inductive Alive (E : Env) (ops : Array Oper) (k : St → Option ρ) (r : ρ) (s0 : St) (listed : Array Bool) (s : St) : List (Nat × Nat) → Prop
  | leaf (ex ex' : List (Nat × Nat)) (ord : List Nat) (T : List Tr) (s' : St) (O : Ord ops.size ord) (X : Txt E (permA ops ex' ord) T s0 s') (hk : k s' = some r) (hx : ∀ p ∈ ex', p ∈ ex ∨ Lst listed p.1)
      (I : Inv (permA ops ex' ord) T s0 s' (listedP ord listed) s) : Alive E ops k r s0 listed s ex
  | node (ex : List (Nat × Nat)) (x y : Nat) (hne : x ≠ y) (hx : ¬ Lst listed x) (hy : ¬ Lst listed y) (A : Alive E ops k r s0 listed s ((x, y) :: ex)) (B : Alive E ops k r s0 listed s ((y, x) :: ex)) : Alive E ops k r s0 listed s ex
theorem Alive.mono {k : St → Option ρ} {ex1 : List (Nat × Nat)} (A : Alive E ops k r s0 listed s ex1) : ∀ {ex2 : List (Nat × Nat)}, (∀ p ∈ ex1, p ∈ ex2 ∨ Lst listed p.1) → Alive E ops k r s0 listed s ex2 := by
  induction A with
  | leaf ex ex' ord T s' O X hk hx I =>
    intro ex2 h
    exact .leaf ex2 ex' ord T s' O X hk (fun p hp => (hx p hp).elim (h p) .inr) I
  | node ex x y hne hx hy A B ihA ihB =>
    intro ex2 h
    refine .node ex2 x y hne hx hy (ihA fun p hp => ?_) (ihB fun p hp => ?_)
    · rcases List.mem_cons.1 hp with rfl | hp
      · exact .inl List.mem_cons_self
      · exact (h p hp).imp (List.mem_cons_of_mem _) id
    · rcases List.mem_cons.1 hp with rfl | hp
      · exact .inl List.mem_cons_self
      · exact (h p hp).imp (List.mem_cons_of_mem _) id
/-- what one operation comes to, whichever way is open -/
def Goes (E : Env) (ops : Array Oper) (k : St → Option ρ) (r : ρ) (s0 : St) (listed : Array Bool) (s : St) (ex : List (Nat × Nat)) (o : Oper) (j : Nat) : Prop :=
  (Wanted ops.toList o s.t ∧ ∃ v h', opA E s.t s.h o.op = some (true, v, h') ∧ Alive E ops k r s0 (listed.setIfInBounds j true) ⟨put s.t o.dst v, h'⟩ ex) ∨
  (Unwanted ops.toList o s.t ∧ Alive E ops k r s0 (listed.setIfInBounds j true) ⟨put s.t o.dst (.tup []), s.h⟩ ex)
theorem wanted_not {all : List Oper} {o : Oper} {t : List AV} (h1 : Wanted all o t) (h2 : Unwanted all o t) : False := by
  unfold Wanted at h1
  unfold Unwanted at h2
  cases hg : o.guard with
  | none => rw [hg] at h2; exact h2
  | some gw =>
    obtain ⟨g, w⟩ := gw
    rw [hg] at h1 h2
    obtain ⟨d, a1, a2⟩ := h1
    obtain ⟨d', b1, b2⟩ := h2
    rw [a1] at b1
    obtain rfl := Option.some.inj b1
    rw [a2] at b2
    rcases b2 with b2 | b2
    · cases w <;> cases b2
    · cases b2
theorem alive_step {k : St → Option ρ} {j : Nat} {o : Oper} (hs : listed.size = ops.size) (hj : j ∈ Region.ready .any ops listed) (ho : ops[j]? = some o) {ex : List (Nat × Nat)} (A : Alive E ops k r s0 listed s ex) :
    (∀ p ∈ ex, p.2 = j → Lst listed p.1) → Goes E ops k r s0 listed s ex o j := by
  have hjn : j < ops.size := (Array.getElem?_eq_some_iff.1 ho).1
  have grow : ∀ {i}, Lst listed i → Lst (listed.setIfInBounds j true) i := fun {i} h => (lst_set (by rw [hs]; exact hjn)).2 (.inr h)
  have now : Lst (listed.setIfInBounds j true) j := (lst_set (by rw [hs]; exact hjn)).2 (.inl rfl)
  induction A with
  | leaf ex ex' ord T s' O X hk hx I =>
    intro H
    have hready := ready_perm (ex := ex') O hs hj fun a ha => (hx _ ha).elim (fun h => H _ h rfl) id
    obtain ⟨oP, x, hoP, hxT, hstep⟩ := draw_step X I hready
    obtain ⟨o', ho', hP⟩ := permA_get (ex := ex') O (posOf_lt (O.all hjn)).2
    obtain rfl : o' = o := by rw [ho] at ho'; exact (Option.some.inj ho').symm
    obtain rfl : oP = renOper ex' ord j o' := by rw [hoP] at hP; exact Option.some.inj hP
    have hsz : (listedP ord (listed.setIfInBounds j true)).size = ((listedP ord listed).setIfInBounds (posOf j ord) true).size := by simp [listedP]
    have next : ∀ {s1}, Inv (permA ops ex' ord) T s0 s' ((listedP ord listed).setIfInBounds (posOf j ord) true) s1 → Alive E ops k r s0 (listed.setIfInBounds j true) s1 ex := fun {s1} I' =>
      .leaf ex ex' ord T s' O X hk (fun p hp => (hx p hp).imp id grow) (Inv.congr hsz (listedP_set O hs hjn) I')
    rcases hstep with ⟨hw, h', hop, I'⟩ | ⟨hw, hv, I'⟩
    · exact .inl ⟨wanted_back O hw, x.v, h', hop, next I'⟩
    · rw [hv] at I'
      exact .inr ⟨unwanted_back O hw, next I'⟩
  | node ex x y hne hx hy A B ihA ihB =>
    intro H
    by_cases hjx : j = x
    · subst hjx
      have hA := ihA fun p hp hq => by
        rcases List.mem_cons.1 hp with rfl | hp
        · exact absurd hq.symm hne
        · exact H p hp hq
      have drop : ∀ {s1}, Alive E ops k r s0 (listed.setIfInBounds j true) s1 ((j, y) :: ex) → Alive E ops k r s0 (listed.setIfInBounds j true) s1 ex := fun {s1} Q =>
        Q.mono fun p hp => by
          rcases List.mem_cons.1 hp with rfl | hp
          · exact .inr now
          · exact .inl hp
      rcases hA with ⟨hw, v, h', hop, Q⟩ | ⟨hw, Q⟩
      · exact .inl ⟨hw, v, h', hop, drop Q⟩
      · exact .inr ⟨hw, drop Q⟩
    · by_cases hjy : j = y
      · subst hjy
        have hB := ihB fun p hp hq => by
          rcases List.mem_cons.1 hp with rfl | hp
          · exact absurd hq.symm hjx
          · exact H p hp hq
        have drop : ∀ {s1}, Alive E ops k r s0 (listed.setIfInBounds j true) s1 ((j, x) :: ex) → Alive E ops k r s0 (listed.setIfInBounds j true) s1 ex := fun {s1} Q =>
          Q.mono fun p hp => by
            rcases List.mem_cons.1 hp with rfl | hp
            · exact .inr now
            · exact .inl hp
        rcases hB with ⟨hw, v, h', hop, Q⟩ | ⟨hw, Q⟩
        · exact .inl ⟨hw, v, h', hop, drop Q⟩
        · exact .inr ⟨hw, drop Q⟩
      · have nx : ∀ {i}, ¬ Lst listed i → j ≠ i → ¬ Lst (listed.setIfInBounds j true) i := fun {i} h1 h2 h3 =>
          ((lst_set (by rw [hs]; exact hjn)).1 h3).elim (fun h => h2 h.symm) h1
        have hA := ihA fun p hp hq => by
          rcases List.mem_cons.1 hp with rfl | hp
          · exact absurd hq.symm hjy
          · exact H p hp hq
        have hB := ihB fun p hp hq => by
          rcases List.mem_cons.1 hp with rfl | hp
          · exact absurd hq.symm hjx
          · exact H p hp hq
        rcases hA with ⟨hw, v, h', hop, Q⟩ | ⟨hw, Q⟩ <;> rcases hB with ⟨hw2, v2, h2', hop2, Q2⟩ | ⟨hw2, Q2⟩
        · rw [hop] at hop2
          simp only [Option.some.injEq, Prod.mk.injEq, true_and] at hop2
          obtain ⟨rfl, rfl⟩ := hop2
          exact .inl ⟨hw, v, h', hop, .node ex x y hne (nx hx hjx) (nx hy hjy) Q Q2⟩
        · exact (wanted_not hw hw2).elim
        · exact (wanted_not hw2 hw).elim
        · exact .inr ⟨hw, .node ex x y hne (nx hx hjx) (nx hy hjy) Q Q2⟩
theorem alive_done {k : St → Option ρ} (hs : listed.size = ops.size) (hr : Region.ready .any ops listed = []) {ex : List (Nat × Nat)} (A : Alive E ops k r s0 listed s ex) : k s = some r := by
  induction A with
  | leaf ex ex' ord T s' O X hk hx I => rw [all_done X I (ready_back O hs hr)]; exact hk
  | node ex x y hne hx hy A B ihA ihB => exact ihA
theorem draw_anyT {C0 : Cx} {h0 : List AObj} {Q : Exit → Act → World → Prop} {k : St → Option ρ} (LK : LOk P C0.L) (hE : C0.L = E.L) (HC : CallAOk P E) (hk : KOk E.nt C0 h0 r k (Q .normal)) :
    ∀ (fuel : Nat) (listed : Array Bool) (C : Cx) (s : St) (a : Act), listed.toList.count false ≤ fuel → listed.size = ops.size → Alive E ops k r s0 listed s [] → SRel E.nt C0 h0 C s a → wpAny P .any ops Q fuel listed a C.w := by
  have done : ∀ {listed : Array Bool} {C : Cx} {s : St} {a : Act}, listed.size = ops.size → Alive E ops k r s0 listed s [] → SRel E.nt C0 h0 C s a → Region.ready .any ops listed = [] → Q .normal a C.w := fun {listed C s a} hs A R hq => hk C _ a R (alive_done hs hq A)
  intro fuel
  induction fuel with
  | zero =>
    intro listed C s a hc hs A R
    have hnil : Region.ready .any ops listed = [] := by
      cases hq : Region.ready .any ops listed with
      | nil => rfl
      | cons j js =>
        have h1 := ready_get (ops := ops) (listed := listed) (j := j) (by rw [hq]; exact List.mem_cons_self)
        have h2 : false ∈ listed.toList := List.mem_of_getElem? (by simpa using h1)
        have := List.count_pos_iff.2 h2
        omega
    exact ⟨hnil, done hs A R hnil⟩
  | succ fuel ih =>
    intro listed C s a hc hs A R
    refine ⟨fun hq => done hs A R hq, fun j hj => ?_⟩
    obtain ⟨_, o, ho, _⟩ := mem_ready.1 hj
    have hst := alive_step hs hj ho A (fun p hp => by simp at hp)
    have hcnt : (listed.setIfInBounds j true).toList.count false ≤ fuel := by
      have := cnt_set listed.toList j (by simpa using ready_get hj)
      rw [Array.toList_setIfInBounds]
      omega
    have hs' : (listed.setIfInBounds j true).size = ops.size := by simpa using hs
    have hL : C.L = C0.L := R.step.ext.L
    unfold wpOp
    simp only [ho]
    rcases hst with ⟨hw, v, h', hop, A'⟩ | ⟨hw, A'⟩
    · rw [wanted_true R.t hw, if_pos rfl]
      refine .inl (op_ok (o := o) (by rw [hL]; exact LK) (hL.trans hE) HC R.h R.t hop _ _ fun C' y s1 H1 v1 => ?_)
      exact ih _ C' _ _ hcnt hs' A' ⟨R.step.trans s1, H1, trel_put ⟨R.t.1, fun i => vrel_ext s1.ext (R.t.2 i)⟩ o.dst v1, by rw [put_defers']; exact R.d⟩
    · rw [wanted_false R.t hw, if_neg (by decide)]
      exact ih _ C _ _ hcnt hs' A' ⟨R.step, R.h, trel_put R.t o.dst (by simp only [VRel]; exact ⟨[], rfl, by simp only [LRel]⟩), by rw [put_defers']; exact R.d⟩
theorem inv_start {E : Env} {ops : Array Oper} {T : List Tr} {s0 s' : St} (X : Txt E ops T s0 s') {l : Array Bool} (hs : l.size = ops.size) (hl : ∀ i, ¬ Lst l i) : Inv ops T s0 s' l s0 :=
  ⟨hs, fun j o hj => (hl j hj).elim, rfl, fun i o x d hi => (hl i hi).elim, fun _ _ => rfl, 0, Nat.zero_le _, by rw [X.st0], fun i x _ _ => ⟨fun h => (hl i h).elim, fun h => absurd h (Nat.not_lt_zero _)⟩⟩
theorem alive_start {k : St → Option ρ} {l : Array Bool} (hs : l.size = ops.size) (hl : ∀ i, ¬ Lst l i) : ∀ (n : Nat) (ex : List (Nat × Nat)), evDrawT E ops.toList n ex k s0 = some r → Alive E ops k r s0 l s0 ex
  | 0, ex, hv => by simp [evDrawT] at hv
  | n + 1, ex, hv => by
    simp only [evDrawT] at hv
    split at hv
    · simp only [cond_eq_ite] at hv
      split at hv
      case isTrue => cases hv
      rename_i hne
      obtain ⟨h1, h2⟩ := both_some hv
      exact .node ex _ _ (fun he => hne (by rw [he]; exact Nat.beq_refl _)) (hl _) (hl _) (alive_start hs hl n _ h1) (alive_start hs hl n _ h2)
    · simp only [cond_eq_ite] at hv
      split at hv
      case isFalse => cases hv
      rename_i hp
      have O : Ord ops.size (topo ops.toList ex ops.toList.length []) := by simpa using ord_of hp
      have hv' : evDraw1 E (permA ops ex (topo ops.toList ex ops.toList.length [])).toList k s0 = some r := by simpa using hv
      obtain ⟨T, s', X, hk⟩ := evDraw_txt hv'
      exact .leaf ex ex _ T s' O X hk (fun p hp => .inl hp) (inv_start X (by rw [permA_size O]; simp only [listedP, List.size_toArray, List.length_map]; exact O.len) fun i h => by
        obtain ⟨q, hq⟩ := lstP_lt h
        exact hl q ((lstP hq).1 h))
end

section
variable {P : Program} {C0 C C' : Cx} {h0 h h' : List AObj} {t : List AV} {a : Act} {nt : Nat} {ρ : Type} {r : ρ} {E : Env} {ops : Array Oper} {T : List Tr} {s0 s' s : St} {listed : Array Bool}
theorem drawOk (hm : P.follows .mixedOrders = true) (HC : CallAOk P E) : DrawOk ρ P E := by
  intro C0 h0 r id ops Q k LK hE hk C s a R hv
  obtain ⟨C1, hw, R1⟩ := srel_drew R
  refine wp_region_any hm ?_
  rw [← hw]
  have hnone : ∀ i, ¬ Lst (Array.replicate ops.size false) i := fun i hi => by
    simp only [Lst, Array.getD_eq_getD_getElem?, Array.getElem?_replicate] at hi
    split at hi <;> simp at hi
  have hcnt : (Array.replicate ops.size false).toList.count false ≤ ops.size := by
    rw [Array.toList_replicate]; exact Nat.le_trans List.count_le_length (by simp)
  unfold evDraw at hv
  simp only [cond_eq_ite] at hv
  split at hv
  · obtain ⟨T, s', X, hr⟩ := evDraw_txt hv
    exact draw_any LK hE HC hk X hr ops.size _ C1 s a hcnt (inv_start X (by simp) hnone) R1
  · exact draw_anyT LK hE HC hk ops.size _ C1 s a hcnt (by simp) (alive_start (by simp) hnone 12 [] hv) R1
theorem call_ok (Cf : Cfg) (nt : Nat) (LK : LOk Cf.P Cf.L) (hF : FOk Cf.P) (hm : Cf.P.follows .mixedOrders = true) (n : Nat) : CallOk Cf.P ⟨Cf.L, Cf.F, nt, evCall Cf nt n⟩ :=
  evCall_ok Cf LK hF (fun X HC => drawOk hm HC) n
/-- The rule for a function: its body is evaluated over callees that are known. -/
theorem fact_body {Cf : Cfg} (LK : LOk Cf.P Cf.L) (hF : FOk Cf.P) (hm : Cf.P.follows .mixedOrders = true) {X : Call'} (HX : CallOk Cf.P ⟨Cf.L, Cf.F, nt, X⟩) (n : Nat) {f : Nat} {fn : Func} {args rs : List AV} {h h' : List AObj} (hfn : Cf.P.funcs[f]? = some fn)
    (hv : evBody ⟨Cf.L, Cf.F, nt, X⟩ (lookV Cf.V f) n fn (sig Cf.F f).res args h = some (rs, h')) : Fact Cf.P Cf.L Cf.F nt f args h rs h' :=
  body_ok LK hF (fun HC => drawOk hm HC) HX _ n hfn hv
end
end Go.Ev
/- The engine, part 41: a call whose arguments refer to no object. -/
namespace Go.Ev
open Go

/-- A world in which nothing is an object yet; the cells of tag 0 are all that are there. -/
def Cx.start (L : List Ly) (w : World) : Cx := ⟨L, w, fun _ => 0, fun _ => 0, fun t b x => t = 0 ∧ b < w.heap.size⟩
theorem start_hrel (L : List Ly) (w : World) : HRel (Cx.start L w) [] :=
  ⟨fun o ho => by simp at ho, fun o o' ho => by simp at ho, fun t b x h => h.2⟩
theorem call_true (Cf : Cfg) (nt : Nat) (LK : LOk Cf.P Cf.L) (hF : FOk Cf.P) (hm : Cf.P.follows .mixedOrders = true) (n f : Nat) (args : List AV) (vs : List Value) (w : World)
    (hr : LRel (Cx.start Cf.L w) [] args vs) (hv : (evCall Cf nt n f args []).map (·.1) = some [.bool true]) :
    Calls Cf.P f vs.toArray w fun e w' => e = .returned (.bool true) ∧ Go.RowKit.Below w.heap.size w w' := by
  cases hq : evCall Cf nt n f args [] with
  | none => rw [hq] at hv; cases hv
  | some p =>
    obtain ⟨rs, h'⟩ := p
    rw [hq] at hv
    simp only [Option.map_some, Option.some.injEq] at hv
    subst hv
    refine (call_ok Cf nt LK hF hm n (C := Cx.start Cf.L w) rfl (start_hrel Cf.L w) hr hq).2.mono fun e w' he => ?_
    cases e with
    | returned x =>
      obtain ⟨C', xs, rfl, S, _, R, hx, _⟩ := he
      simp only [LRel, VRel] at R
      obtain ⟨v, vs', rfl, rfl, rfl⟩ := R
      exact ⟨by rw [hx]; rfl, S.os, S.tape, S.output, S.size, fun k hk => S.kept k hk fun o ho => by simp at ho⟩
    | panicked _ => exact he.elim
    | outgrown => exact he.elim
end Go.Ev
/- The engine, part 42: the row's last step, where nothing below was touched. -/
namespace Go.Ev
open Go Go.RowKit Go.WideShapes Go.ChangeShapes
section
variable {H : Type} {enc : TypeId × Value → H} {P : Program}
theorem post_of_below {f : Func} {s : ChangeSpec} {apart fresh handsOn again : Bool} {W W' : World} {args : Array Value} {v : Value} {ds gs : List (DataW H)} {before pa pv : List MemPlace}
    (hW : DataW.Whole enc P f.params.toList s.vars apart W args.toList ds gs before)
    (hres : ∀ (b : Nat) (sp : Nat → Bool) (hd : Bool), DataW.TrodAll enc P W' b sp hd f.resultTypes.toList (v.resultList f.resultTypes.size) (s.fn H (ds ++ gs)).results [])
    (hargs : ∀ sp : Nat → Bool, (∀ p ∈ before, sp p.block = true) → DataW.TrodAll enc P W' 0 sp true f.params.toList args.toList (s.fn H (ds ++ gs)).args pa)
    (hvars : ∀ sp : Nat → Bool, (∀ p ∈ before, sp p.block = true) → DataW.TrodVars enc P W' sp s.vars (s.fn H (ds ++ gs)).vars pv)
    (hps : before = pa ++ pv) (hb : RowKit.Below W.heap.size W W')
    (hok : ∀ (j : Nat) (t : TypeId) (r : Value), f.resultTypes[j]? = some t → (v.resultList f.resultTypes.size)[j]? = some r → Value.okWide P W' .any 0 t r) :
    s.post enc P f apart fresh handsOn again W args v W' := by
  have hlt : ∀ p ∈ before, p.block < W.heap.size := fun p hp => hW.lt p hp
  have hold : ∀ p ∈ before, (fun b => decide (b < W.heap.size)) p.block = true := fun p hp => by simpa using hlt p hp
  refine ⟨ds, gs, before, [], pa, pv, hW, hres _ _ _, hargs _ hold, hvars _ hold, World.keptBut_mono (fun p hp => ⟨hp, ?_⟩) (hb.frame (· ∈ before)), fun _ => ?_⟩
  · rw [hps, List.mem_append] at hp
    exact Or.inr hp
  · obtain ⟨_, _, _, _, _, hz, hn⟩ := hW
    refine ⟨hok, _, _, ([] ++ pa) ++ pv, ⟨[] ++ pa, pv, trodAll_append (hargs _ (fun _ _ => rfl)) (hres _ _ _), hvars _ (fun _ _ => rfl), rfl, ?_, ?_⟩, ?_⟩
    · intro b off hp
      have hin : MemPlace.cell b off ∈ before := by rw [hps]; simpa using hp
      rw [hb.frozen (hlt _ hin)]
      exact hz b off hin
    · intro ha
      have := hn ha
      rw [hps] at this
      simpa using this
    · intro p hp _
      rw [hps]
      simpa using hp
end
end Go.Ev
