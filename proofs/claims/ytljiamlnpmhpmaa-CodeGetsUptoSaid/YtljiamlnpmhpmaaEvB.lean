/- The evaluator and its soundness, text 2 of 4. -/
import Derived.Test.YtljiamlnpmhpmaaEvA
import Derived.Laws.AppendOwn
import Derived.Laws.MakeOwn
import Derived.Laws.IdiomStrings
set_option linter.unusedVariables false
set_option linter.unusedSimpArgs false
/- The engine, part 8: slicing, lengths, look-ups, conversions that lay nothing. -/
namespace Go.Ev
open Go

section
variable {P : Program} {C : Cx} {h : List AObj} {t : List AV} {a : Act} {o : Oper}

def BRel (x : Option Value) (l : Option Int) : Prop := (x = none ∧ l = none) ∨ ∃ k n, x = some (.int k n) ∧ l = some n
theorem getInt_rel {x : Option Operand} {l : Option Int} (T : TRel C h t a) (hg : getInt (x.map (opd t)) = some l) : BRel (x.map a.eval) l := by
  cases x with
  | none => simp [getInt] at hg; subst hg; exact .inl ⟨rfl, rfl⟩
  | some x =>
    have h1 := vrel_opd T x
    simp only [Option.map_some] at hg ⊢
    cases hx : opd t x <;> rw [hx] at hg h1 <;> simp [getInt] at hg
    subst hg
    simp only [VRel] at h1
    exact .inr ⟨_, _, by rw [h1], rfl⟩
theorem run_bounds {isSlice : Bool} {len cap : Nat} {lo hi mx : Option Value} {l hh mm : Option Int} (rl : BRel lo l) (rh : BRel hi hh) (rm : BRel mx mm) (hm : mm.isSome = true → hh.isSome = true) (w : World)
    (h0 : 0 ≤ l.getD 0) (h1 : l.getD 0 ≤ hh.getD len) (h2 : hh.getD len ≤ mm.getD cap) (h3 : mm.getD cap ≤ cap) :
    (Instr.sliceBounds isSlice len cap lo hi mx).run P w = .ok ((l.getD 0).toNat, (hh.getD len).toNat, (mm.getD cap).toNat) w := by
  have sb : ∀ (k : IntKind) (i : Int) (y : Nat) (code : BoundsCode), 0 ≤ i → i ≤ (y : Int) → (Instr.sliceBound (.int k i) y code).run P w = .ok i.toNat w := fun k i y code a b => by
    simp [Instr.sliceBound, asIntOf, a, b]
  unfold Instr.sliceBounds
  rcases rm with ⟨rfl, rfl⟩ | ⟨km, nm, rfl, rfl⟩ <;> rcases rh with ⟨rfl, rfl⟩ | ⟨kh, nh, rfl, rfl⟩ <;> rcases rl with ⟨rfl, rfl⟩ | ⟨kl, nl, rfl, rfl⟩ <;>
    simp only [Option.getD_none, Option.getD_some, Option.isSome_none, Option.isSome_some, Bool.false_eq_true, imp_false, not_true_eq_false] at h0 h1 h2 h3 hm ⊢ <;> (try simp only [Sem.run_bind, Sem.run_pure, Result.andThen_ok, Int.toNat_natCast, Int.toNat_zero])
  · rw [sb _ _ _ _ h0 (by omega)]; simp
  · rw [sb _ _ _ _ (by omega) (by omega)]; simp
  · rw [sb _ _ _ _ (by omega) (by omega)]; simp only [Result.andThen_ok]; rw [sb _ _ _ _ (by omega) (by omega)]; simp
  · rw [sb _ _ _ _ (by omega) (by omega)]; simp only [Result.andThen_ok]; rw [sb _ _ _ _ (by omega) (by omega)]; simp
  · rw [sb _ _ _ _ (by omega) (by omega)]; simp only [Result.andThen_ok]; rw [sb _ _ _ _ (by omega) (by omega)]; simp only [Result.andThen_ok]; rw [sb _ _ _ _ (by omega) (by omega)]; simp

theorem str_extract (s : List UInt8) (l hh : Nat) : (⟨s.toArray⟩ : ByteArray).extract l hh = ⟨((s.take hh).drop l).toArray⟩ := by
  apply ByteArray.ext
  simp [ByteArray.data_extract, List.extract_eq_take_drop, List.drop_take]
theorem run_sliceAt_s {ty e : Nat} {i : TypeInfo} {z : Value} (hu : P.underlying ty = some (.slice e)) (Te : Ty P (ly C.L e) e i z) {ad : Option Addr} {len cap : Nat} {lo hi mx : Option Value} {l hh mm : Option Int} (rl : BRel lo l) (rh : BRel hi hh) (rm : BRel mx mm) (hm : mm.isSome = true → hh.isSome = true) (w : World)
    (h0 : 0 ≤ l.getD 0) (h1 : l.getD 0 ≤ hh.getD len) (h2 : hh.getD len ≤ mm.getD cap) (h3 : mm.getD cap ≤ cap) :
    (Instr.sliceAt ty (.slice ad len cap) lo hi mx).run P w = .ok (.slice (if (mm.getD cap).toNat = (l.getD 0).toNat then ad else ad.map (·.add ((l.getD 0).toNat * (ly C.L e).cells.length))) ((hh.getD len).toNat - (l.getD 0).toNat) ((mm.getD cap).toNat - (l.getD 0).toNat)) w := by
  simp [Instr.sliceAt, Instr.slice, run_underlying hu, run_bounds rl rh rm hm w h0 h1 h2 h3, Te.run_sizeOf]

theorem read_slice {ty : Nat} {x : Operand} {lo hi mx : Option Operand} {v : AV} (LK : LOk P C.L) (H : HRel C h) (T : TRel C h t a) (ho : o.op = .slice ty x lo hi mx)
    (hv : sliceA C.L h ty (opd t x) (lo.map (opd t)) (hi.map (opd t)) (mx.map (opd t)) = some (true, v)) : ReadOk P C h a o v := by
  have hx := vrel_opd T x
  have fin : ∀ u, (Instr.sliceAt ty (a.eval x) (lo.map a.eval) (hi.map a.eval) (mx.map a.eval)).run P C.w = .ok u C.w → VRel C h v u → ReadOk P C h a o v := fun u g1 g2 => ⟨u, by simp [execOp, ho, g1], g2⟩
  unfold sliceA at hv
  simp only [Option.bind_eq_some_iff] at hv
  obtain ⟨l, hl, hh, hhh, mm, hmm, hv⟩ := hv
  have rl := getInt_rel T hl
  have rh := getInt_rel T hhh
  have rm := getInt_rel T hmm
  revert hv hx
  generalize opd t x = ax
  intro hx hv
  split at hv
  · rename_i s hk
    cases mm with
    | some m => simp at hv
    | none =>
    simp only [Option.some.injEq, Prod.mk.injEq, Bool.and_eq_true, decide_eq_true_eq] at hv
    obtain ⟨⟨⟨g0, g1⟩, g2⟩, rfl⟩ := hv
    obtain ⟨i, z, Ts⟩ := LK.ty (t := ty) (by rw [hk]; rfl)
    simp only [VRel] at hx
    have hm : mx.map a.eval = none := by rcases rm with ⟨q, _⟩ | ⟨_, _, _, q⟩; exact q; cases q
    refine fin (.string ⟨((s.take (hh.getD s.length).toNat).drop (l.getD 0).toNat).toArray⟩) ?_ (by simp only [VRel])
    have hsz : (⟨s.toArray⟩ : ByteArray).size = s.length := by simp [ByteArray.size]
    have hb := run_bounds (P := P) (isSlice := false) (len := s.length) (cap := s.length) rl rh (.inl ⟨rfl, rfl⟩ : BRel none none) (by simp) C.w g0 g1 (by simpa using g2) (by simp)
    rw [hx, hm]
    simp [Instr.sliceAt, Instr.slice, run_underlying (Ts.str hk), hsz, hb, str_extract]
  · rename_i e' tg e c rows hk
    simp only [cond_eq_ite, Bool.and_eq_true, nbeq] at hv
    split at hv
    case isFalse => cases hv
    rename_i hc
    obtain ⟨rfl, hkn⟩ := hc
    obtain ⟨i, z, Ts⟩ := LK.ty (t := ty) (by rw [hk]; rfl)
    obtain ⟨ie, ze, Te⟩ := LK.ty hkn
    simp only [VRel] at hx
    obtain ⟨ad, cap, hx, q2, q3, q4, q5, q6⟩ := hx
    -- the value, whatever the bounds
    have mk : ∀ (m : Nat) (hi' : Nat) (c' : Cp), (l.getD 0).toNat ≤ hi' → hi' ≤ rows.length → hi' ≤ m → m ≤ cap → c'.nl = c.nl → (c'.tight = true → m = hi') →
        VRel C h (.ps tg e c' ((rows.take hi').drop (l.getD 0).toNat)) (.slice (if m = (l.getD 0).toNat then ad else ad.map (·.add ((l.getD 0).toNat * (ly C.L e).cells.length))) (hi' - (l.getD 0).toNat) (m - (l.getD 0).toNat)) := by
      intro m hi' c' a1 a2 a3 a4 a5 a6
      have hlen : ((rows.take hi').drop (l.getD 0).toNat).length = hi' - (l.getD 0).toNat := by simp; omega
      simp only [VRel]
      refine ⟨_, _, by rw [hlen], by rw [hlen]; omega, fun hn => ?_, fun hn => ?_, fun ht => by rw [hlen, a6 ht], fun hne => ?_⟩
      · obtain ⟨b1, b2⟩ := q3 (a5 ▸ hn)
        subst b1
        refine ⟨by split <;> rfl, by omega⟩
      · have := q4 (a5 ▸ hn)
        split
        · exact this
        · simpa using this
      · have hp : (l.getD 0).toNat < hi' := by
          apply Nat.lt_of_not_le; intro hq; apply hne; apply List.eq_nil_of_length_eq_zero; omega
        have hrne : rows ≠ [] := by intro hq; subst hq; simp at a2; omega
        obtain ⟨b, off, rfl, q7⟩ := q6 hrne
        refine ⟨b, off + (l.getD 0).toNat * (ly C.L e).cells.length, by rw [if_neg (by omega)]; simp [addr_add], ?_⟩
        exact rowsRel_drop _ (rowsRel_take _ q7)
    cases mm with
    | none =>
      simp only [Option.some.injEq, Prod.mk.injEq, Bool.and_eq_true, decide_eq_true_eq] at hv
      obtain ⟨⟨⟨g0, g1⟩, g2⟩, rfl⟩ := hv
      have hr := run_sliceAt_s (C := C) (Ts.slice hk) Te (ad := ad) (len := rows.length) (cap := cap) rl rh rm (by simp) C.w g0 g1 (by simp; omega) (by simp)
      refine fin _ (by rw [hx]; exact hr) ?_
      simp only [Option.getD_none, Int.toNat_natCast]
      refine mk cap (hh.getD rows.length).toNat _ (by omega) (by omega) (by omega) (Nat.le_refl _) rfl ?_
      intro ht
      simp only [Bool.and_eq_true, decide_eq_true_eq] at ht
      rw [q5 ht.1, ht.2]; simp
    | some m =>
      cases hh with
      | none => simp at hv
      | some hh =>
      simp only [Option.some.injEq, Prod.mk.injEq, Bool.and_eq_true, decide_eq_true_eq] at hv
      obtain ⟨⟨⟨⟨g0, g1⟩, g2⟩, rfl⟩, rfl⟩ := hv
      have hr := run_sliceAt_s (C := C) (Ts.slice hk) Te (ad := ad) (len := rows.length) (cap := cap) rl rh rm (by simp) C.w g0 (by simpa using g1) (by simp) (by simp; omega)
      refine fin _ (by rw [hx]; exact hr) ?_
      simp only [Option.getD_some]
      exact mk hh.toNat hh.toNat _ (by omega) (by omega) (by omega) (by omega) rfl (fun _ => rfl)
  · rename_i e' oo ver hk
    cases hn : nth .dead h oo with
    | dead => rw [hn] at hv; cases hv
    | box _ _ => rw [hn] at hv; cases hv
    | mp _ _ => rw [hn] at hv; cases hv
    | arr e rows c w fz =>
      rw [hn] at hv
      cases mm with
      | some m => cases hv
      | none =>
      simp only [cond_eq_ite, Bool.and_eq_true, nbeq] at hv
      split at hv
      case isFalse => cases hv
      rename_i hc
      obtain ⟨⟨rfl, rfl⟩, hkn⟩ := hc
      simp only [Option.some.injEq, Prod.mk.injEq, Bool.and_eq_true, decide_eq_true_eq, Bool.not_eq_true'] at hv
      obtain ⟨⟨⟨⟨hnl, g0⟩, g1⟩, g2⟩, rfl⟩ := hv
      obtain ⟨i, z, Ts⟩ := LK.ty (t := ty) (by rw [hk]; rfl)
      obtain ⟨ie, ze, Te⟩ := LK.ty hkn
      obtain ⟨hlt, ad, q1, q2, q3, q4⟩ := own_value hn hx
      have hob := H.obj oo hlt
      rw [hn] at hob
      obtain ⟨_, _, hob⟩ := hob
      obtain ⟨cs, _, _, hcap, _⟩ := hob hnl
      have hr := run_sliceAt_s (C := C) (Ts.slice hk) Te (ad := ad) (len := rows.length) (cap := C.kap oo) rl rh rm (by simp) C.w g0 g1 (by simp; omega) (by simp)
      refine fin _ (by rw [q1]; exact hr) ?_
      simp only [Option.getD_none, Int.toNat_natCast, VRel, RefOk, hn]
      refine ⟨⟨rfl, rfl⟩, hlt, Nat.le_refl _, fun _ => ?_⟩
      rw [q3 hnl]
      by_cases he : C.kap oo = (l.getD 0).toNat
      · rw [if_pos he]
        exact ⟨_, rfl, by omega, by omega, hnl, fun hq => by omega⟩
      · rw [if_neg he]
        exact ⟨_, rfl, by omega, by omega, hnl, fun hq => by simp [addr_add, Cx.es]⟩
  · rename_i e' oo ver off len hk
    cases hn : nth .dead h oo with
    | dead => rw [hn] at hv; cases hv
    | box _ _ => rw [hn] at hv; cases hv
    | mp _ _ => rw [hn] at hv; cases hv
    | arr e rows c w fz =>
      rw [hn] at hv
      cases mm with
      | some m => cases hv
      | none =>
      simp only [cond_eq_ite, Bool.and_eq_true, nbeq] at hv
      split at hv
      case isFalse => cases hv
      rename_i hc
      obtain ⟨⟨rfl, rfl⟩, hkn⟩ := hc
      simp only [Option.some.injEq, Prod.mk.injEq, Bool.and_eq_true, decide_eq_true_eq, Bool.not_eq_true'] at hv
      obtain ⟨⟨⟨g0, g1⟩, g2⟩, rfl⟩ := hv
      obtain ⟨i, z, Ts⟩ := LK.ty (t := ty) (by rw [hk]; rfl)
      obtain ⟨ie, ze, Te⟩ := LK.ty hkn
      obtain ⟨hlt, ad, q1, q2, q3, q4, q5⟩ := sl_value hn hx
      have hr := run_sliceAt_s (C := C) (Ts.slice hk) Te (ad := some ad) (len := len) (cap := C.kap oo - off) rl rh rm (by simp) C.w g0 g1 (by simp; omega) (by simp)
      refine fin _ (by rw [q1]; exact hr) ?_
      simp only [Option.getD_none, Int.toNat_natCast, VRel, RefOk, hn]
      refine ⟨⟨rfl, rfl⟩, hlt, Nat.le_refl _, fun _ => ?_⟩
      by_cases he : C.kap oo - off = (l.getD 0).toNat
      · rw [if_pos he]
        exact ⟨ad, by rw [Nat.sub_sub], by omega, by omega, q4, fun hq => by omega⟩
      · rw [if_neg he]
        refine ⟨_, by rw [Nat.sub_sub]; rfl, by omega, by omega, q4, fun hq => ?_⟩
        rw [q5 (by omega)]
        simp [addr_add, Cx.es, Nat.add_mul]
  · cases hv

theorem entsRel_length {kt vt : Nat} : ∀ {es : List (AV × AV)} {xs : List MapEntry}, EntsRel C h kt vt es xs → xs.length = es.length
  | [], xs, hr => by simp only [EntsRel] at hr; subst hr; rfl
  | p :: ps, xs, hr => by
    simp only [EntsRel] at hr
    obtain ⟨q, qs, rfl, _, h2⟩ := hr
    simp [entsRel_length h2]
theorem hmap_obj {oo tt : Nat} {es : List (AV × AV)} (hob : HObj C h oo (.mp tt es)) : ∃ kt vt xs ck, (ly C.L tt).k = .map kt vt ∧ C.w.heap[C.mu oo]? = some (.map xs ck) ∧ EntsRel C h kt vt es xs.toList := by
  simp only [HObj] at hob
  cases hk : (ly C.L tt).k <;> rw [hk] at hob <;> first | exact hob.elim | skip
  obtain ⟨xs, ck, g1, g2⟩ := hob
  exact ⟨_, _, xs, ck, rfl, g1, g2⟩
theorem read_len {c : Call} {x : Operand} {ty n : Nat} (LK : LOk P C.L) (H : HRel C h) (T : TRel C h t a) (ho : o.op = .call c) (hc : c.callee = .builtin .len) (h0 : nth 0 c.argTypes.toList 0 = ty) (h1 : c.args.toList = [x])
    (hat : c.argTypes.toList ≠ []) (hv : lenA C.L h ty (opd t x) = some n) : ReadOk P C h a o (.int .i64 (n : Int)) := by
  have hx := vrel_opd T x
  have ha : c.args.map a.eval = #[a.eval x] := by apply Array.ext'; simp [h1]
  have ht : c.argTypes[0]? = some ty := by
    cases hq : c.argTypes.toList with
    | nil => exact absurd hq hat
    | cons y ys => rw [hq] at h0; simp only [nth] at h0; subst h0; have : c.argTypes.toList[0]? = some y := by rw [hq]; rfl
                   simpa using this
  have fin : (Builtin.len_ c.argTypes o.type #[a.eval x]).run P C.w = .ok (.int .i64 (n : Int)) C.w → ReadOk P C h a o (.int .i64 (n : Int)) := fun g =>
    ⟨.int .i64 (n : Int), by simp [execOp, ho, resolve, hc, ha, invoke, builtin, g], by simp only [VRel]⟩
  apply fin
  unfold lenA at hv
  split at hv
  · rename_i n' e _ hk
    simp only [Option.some.injEq] at hv
    subst hv
    obtain ⟨i, z, Ts⟩ := LK.ty (t := ty) (by rw [hk]; rfl)
    simp [Builtin.len_, ht, run_underlying (Ts.array hk), goInt]
  · rename_i s hk hs
    simp only [Option.some.injEq] at hv
    subst hv
    obtain ⟨i, z, Ts⟩ := LK.ty (t := ty) (by rw [hk]; rfl)
    rw [hs] at hx; simp only [VRel] at hx
    rw [hx]
    have hsz : (⟨s.toArray⟩ : ByteArray).size = s.length := by simp [ByteArray.size]
    simp [Builtin.len_, ht, run_underlying (Ts.str hk), goInt, hsz]
  · rename_i rows hk hs
    simp only [Option.some.injEq] at hv
    subst hv
    obtain ⟨i, z, Ts⟩ := LK.ty (t := ty) (by rw [hk]; rfl)
    rw [hs] at hx; simp only [VRel] at hx
    obtain ⟨ad, cap, hx, _⟩ := hx
    rw [hx]
    simp [Builtin.len_, ht, run_underlying (Ts.slice hk), goInt]
  · rename_i e oo ver hk hs
    obtain ⟨i, z, Ts⟩ := LK.ty (t := ty) (by rw [hk]; rfl)
    rw [hs] at hx
    cases hn : nth .dead h oo with
    | dead => rw [hn] at hv; cases hv
    | box _ _ => rw [hn] at hv; cases hv
    | mp _ _ => rw [hn] at hv; cases hv
    | arr e rows c w fz =>
      rw [hn] at hv
      simp only [cond_eq_ite, nbeq] at hv
      split at hv
      case isFalse => cases hv
      rename_i hc; subst hc
      simp only [Option.some.injEq] at hv
      subst hv
      obtain ⟨hlt, ad, q1, _⟩ := own_value hn hx
      rw [q1]
      simp [Builtin.len_, ht, run_underlying (Ts.slice hk), goInt]
  · rename_i e oo ver off len hk hs
    obtain ⟨i, z, Ts⟩ := LK.ty (t := ty) (by rw [hk]; rfl)
    rw [hs] at hx
    cases hn : nth .dead h oo with
    | dead => rw [hn] at hv; cases hv
    | box _ _ => rw [hn] at hv; cases hv
    | mp _ _ => rw [hn] at hv; cases hv
    | arr e rows c w fz =>
      rw [hn] at hv
      simp only [cond_eq_ite, nbeq] at hv
      split at hv
      case isFalse => cases hv
      rename_i hc; subst hc
      simp only [Option.some.injEq] at hv
      subst hv
      obtain ⟨hlt, ad, q1, _⟩ := sl_value hn hx
      rw [q1]
      simp [Builtin.len_, ht, run_underlying (Ts.slice hk), goInt]
  · rename_i k' v' oo hk hs
    obtain ⟨i, z, Ts⟩ := LK.ty (t := ty) (by rw [hk]; rfl)
    rw [hs] at hx
    simp only [VRel, RefOk] at hx
    replace hx := hx.2
    cases hn : nth .dead h oo with
    | dead => rw [hn] at hv; cases hv
    | box _ _ => rw [hn] at hv; cases hv
    | arr _ _ _ _ _ => rw [hn] at hv; cases hv
    | mp t' es =>
      rw [hn] at hv hx
      simp only [Option.some.injEq] at hv
      subst hv
      have hob := H.obj oo hx.1
      rw [hn] at hob
      obtain ⟨kt, vt, xs, ck, _, g1, g2⟩ := hmap_obj hob
      have := entsRel_length g2
      rw [hx.2]
      simp [Builtin.len_, ht, run_underlying (Ts.map hk), goInt, getObj, Sem.run, g1]
      have h3 : xs.size = es.length := by simpa using this
      rw [h3]
  · rename_i k' v' hk hs
    obtain ⟨i, z, Ts⟩ := LK.ty (t := ty) (by rw [hk]; rfl)
    rw [hs] at hx
    simp only [VRel] at hx
    simp only [Option.some.injEq] at hv
    subst hv
    rw [hx]
    simp [Builtin.len_, ht, run_underlying (Ts.map hk), goInt]
  · cases hv

/-! ### Look-ups -/
theorem bytes_beq (s s' : List UInt8) : ((⟨s.toArray⟩ : ByteArray) == ⟨s'.toArray⟩) = decide (s = s') := by
  show (ByteArray.beq _ _) = _
  by_cases hq : s = s'
  · subst hq; simp [ByteArray.beq]
  · simp [ByteArray.beq, hq]
theorem keyEq_ok {kk : K} {x y : AV} {u v : Value} (hx : okKey kk x = true) (hy : okKey kk y = true) (hu : VRel C h x u) (hv : VRel C h y v) {d : TypeDesc} (hd : kOk (some d) kk = true) :
    Instr.sameNow d u v = some (keyEq x y) := by
  cases kk <;> cases d <;> simp [kOk] at hd <;> cases x <;> simp [okKey] at hx <;> cases y <;> simp [okKey] at hy <;> simp only [VRel] at hu hv <;> subst hu <;> subst hv <;> simp [Instr.sameNow, keyEq]
  · subst hd; subst hx; subst hy; simp; rfl
  · exact bytes_beq _ _
theorem run_checkKey {em : Bool} {ty : Nat} {kk : K} {d : TypeDesc} {x : AV} {u : Value} (hd : P.underlying ty = some d) (hk : kOk (some d) kk = true) (hx : okKey kk x = true) (n : Nat) (w : World) : (Instr.checkKey em (n + 1) ty u).run P w = .ok () w := by
  cases kk <;> cases d <;> simp [kOk] at hk <;> cases x <;> simp [okKey] at hx <;> simp [Instr.checkKey, run_underlying hd]
def Found (C : Cx) (h : List AObj) (key : AV) (es : List (AV × AV)) (xs : List MapEntry) (i : Nat) : Option (Nat × Value) → Prop
  | none => mpGet key es = none ∧ ∀ v', mpSet key v' es = es ++ [(key, v')]
  | some (k, y) => ∃ j v, k = i + j ∧ j < es.length ∧ mpGet key es = some v ∧ VRel C h v y ∧ keyEq key (nth (.u, .u) es j).1 = true ∧ ∀ v', mpSet key v' es = upd es j (key, v')
theorem findNow_ok {kt vt : Nat} {key : AV} {u : Value} {d : TypeDesc} (hd : kOk (some d) (ly C.L kt).k = true) (hx : okKey (ly C.L kt).k key = true) (hu : VRel C h key u) :
    ∀ (es : List (AV × AV)) (xs : List MapEntry) (i : Nat), EntsRel C h kt vt es xs → ∃ r, Instr.findNow d u xs i = some r ∧ Found C h key es xs i r
  | [], xs, i, hr => by
    simp only [EntsRel] at hr
    subst hr
    exact ⟨none, rfl, rfl, fun v' => rfl⟩
  | p :: ps, xs, i, hr => by
    simp only [EntsRel] at hr
    obtain ⟨q, qs, rfl, h1, h2⟩ := hr
    obtain ⟨e1, e2, e3, e4, e5⟩ := h1
    have hs := keyEq_ok hx e1 hu e2 hd
    unfold Instr.findNow
    rw [hs]
    cases hk : keyEq key p.1
    · simp only
      obtain ⟨r, g1, g2⟩ := findNow_ok hd hx hu ps qs (i + 1) h2
      refine ⟨r, g1, ?_⟩
      cases r with
      | none =>
        obtain ⟨a1, a2⟩ := g2
        exact ⟨by simp [mpGet, hk, a1], fun v' => by simp [mpSet, hk, a2]⟩
      | some r =>
        obtain ⟨k, y⟩ := r
        obtain ⟨j, v, a1, a2, a3, a4, a5, a6⟩ := g2
        exact ⟨j + 1, v, by omega, by simpa using a2, by simp [mpGet, hk, a3], a4, by simpa [nth] using a5, fun v' => by simp [mpSet, hk, a6, upd]⟩
    · simp only
      exact ⟨_, rfl, 0, p.2, by simp, by simp, by simp [mpGet, hk], e5, by simpa [nth] using hk, fun v' => by simp [mpSet, hk, upd]⟩
theorem entsRel_nth {kt vt : Nat} : ∀ {es : List (AV × AV)} {xs : List MapEntry}, EntsRel C h kt vt es xs → ∀ j, j < es.length → ∃ e, xs[j]? = some e ∧ EntRel C h kt vt (nth (.u, .u) es j) e
  | [], xs, hr, j, hj => by simp at hj
  | p :: ps, xs, hr, 0, hj => by
    simp only [EntsRel] at hr
    obtain ⟨q, qs, rfl, h1, h2⟩ := hr
    exact ⟨q, rfl, h1⟩
  | p :: ps, xs, hr, j + 1, hj => by
    simp only [EntsRel] at hr
    obtain ⟨q, qs, rfl, h1, h2⟩ := hr
    obtain ⟨e, g1, g2⟩ := entsRel_nth h2 j (by simpa using hj)
    exact ⟨e, by simpa using g1, by simpa [nth] using g2⟩
theorem mpGet_mem {key : AV} : ∀ {es : List (AV × AV)} {v : AV}, mpGet key es = some v → ∃ j, j < es.length ∧ (nth (.u, .u) es j).2 = v
  | [], v, hg => by simp [mpGet] at hg
  | p :: ps, v, hg => by
    simp only [mpGet, cond_eq_ite] at hg
    split at hg
    · exact ⟨0, by simp, by simpa [nth] using hg⟩
    · obtain ⟨j, h1, h2⟩ := mpGet_mem hg
      exact ⟨j + 1, by simpa using h1, by simpa [nth] using h2⟩
theorem zs_rel : ∀ {ks : List CK} {vs : List Value}, zsOk ks vs = true → LRel C h (ks.map zCell) vs
  | [], [], _ => by simp [LRel]
  | [], _ :: _, hz => by simp [zsOk] at hz
  | _ :: _, [], hz => by simp [zsOk] at hz
  | k :: ks, v :: vs, hz => by
    simp only [zsOk, Bool.and_eq_true] at hz
    simp only [List.map_cons, LRel]
    refine ⟨v, vs, rfl, ?_, zs_rel hz.2⟩
    replace hz := hz.1
    unfold zOk at hz
    split at hz <;> simp only [zCell, VRel, nilPs] <;> simp_all
    · rename_i s; cases hq : s.data.toList with
      | nil => apply ByteArray.ext; apply Array.ext'; simpa using hq
      | cons y ys => rw [hq] at hz; simp [empty] at hz
theorem zs_okRow : ∀ {ks : List CK} {vs : List Value}, zsOk ks vs = true → okRow ks (ks.map zCell) = true
  | [], [], _ => rfl
  | [], _ :: _, hz => by simp [zsOk] at hz
  | _ :: _, [], hz => by simp [zsOk] at hz
  | k :: ks, v :: vs, hz => by
    simp only [zsOk, Bool.and_eq_true] at hz
    simp only [List.map_cons, okRow, Bool.and_eq_true]
    refine ⟨?_, zs_okRow hz.2⟩
    have hz := hz.1
    cases k <;> simp [zCell, okCell, nilPs, nbeq] <;> simp [zOk] at hz
theorem Ty.zrel {l : Ly} {ty : Nat} {i : TypeInfo} {z : Value} (Tt : Ty P l ty i z) : LRel C h (zCells l) z.cells.toList := zs_rel Tt.zs
/-- the value whose cells these are -/
theorem packed_rel {l : Ly} {ty : Nat} {i : TypeInfo} {z : Value} (Tt : Ty P l ty i z) {cs : List AV} {u : Value} (hr : LRel C h cs u.cells.toList) (hu : zAgg l.k.agg u = true) (hl : l.k.agg = false → cs.length = 1) : VRel C h (packed l cs) u := by
  unfold packed
  cases ha : l.k.agg
  · simp only [cond_false]
    have h1 := hl ha
    match cs, h1 with
    | [c], _ =>
      simp only [nth]
      have hc : u.cells = #[u] := by
        rw [ha] at hu
        cases u <;> simp [zAgg] at hu <;> rfl
      rw [hc] at hr
      simp only [LRel] at hr
      obtain ⟨v, vs, g1, g2, _⟩ := hr
      simp only [List.cons.injEq] at g1
      rw [g1.1]; exact g2
  · simp only [cond_true]
    rw [ha] at hu
    cases u <;> simp [zAgg] at hu
    simp only [VRel]
    rename_i cs'
    exact ⟨cs'.toList, by simp, hr⟩
theorem Ty.ncells {l : Ly} {ty : Nat} {i : TypeInfo} {z : Value} (Tt : Ty P l ty i z) (ha : l.k.agg = false) : l.cells.length = 1 := by
  have h1 := Tt.zs
  have h2 := Tt.zag
  rw [ha] at h2
  have hc : z.cells = #[z] := by cases z <;> simp [zAgg] at h2 <;> rfl
  rw [hc] at h1
  revert h1
  cases l.cells with
  | nil => intro h1; simp [zsOk] at h1
  | cons k ks => cases ks with
    | nil => intro _; rfl
    | cons k' ks => intro h1; simp [zsOk] at h1
theorem okCell_one {k : CK} {v : AV} {u : Value} (hk : okCell k v = true) (hv : VRel C h v u) : u.cells = #[u] ∧ zAgg false u = true ∧ u.oneCell' = true := by
  cases k <;> cases v <;> simp [okCell] at hk <;> (try simp only [VRel] at hv)
  case int.int => subst hv; exact ⟨rfl, rfl, rfl⟩
  case bool.bool => subst hv; exact ⟨rfl, rfl, rfl⟩
  case str.str => subst hv; exact ⟨rfl, rfl, rfl⟩
  case sl.ps => obtain ⟨_, _, rfl, _⟩ := hv; exact ⟨rfl, rfl, rfl⟩
  case fn.func f cs =>
    cases f with
    | none => simp only [VRel] at hv; subst hv; exact ⟨rfl, rfl, rfl⟩
    | some f => simp only [VRel] at hv; obtain ⟨_, rfl, _⟩ := hv; exact ⟨rfl, rfl, rfl⟩
  case ptr.nilptr => subst hv; exact ⟨rfl, rfl, rfl⟩
  case map.nilmap => subst hv; exact ⟨rfl, rfl, rfl⟩
  case iface.niliface => subst hv; exact ⟨rfl, rfl, rfl⟩
theorem okRow_zag {l : Ly} {i : TypeInfo} {z : Value} {ty : Nat} (Tt : Ty P l ty i z) {v : AV} {u : Value} (hv : VRel C h v u) (ho : okRow l.cells v.toCells = true) (hs : if l.k.agg then ∃ cs, v = .agg cs else oneCell v = true) : LRel C h v.toCells u.cells.toList ∧ zAgg l.k.agg u = true := by
  cases ha : l.k.agg
  · rw [ha] at hs
    simp only [Bool.false_eq_true, if_false] at hs
    have h1 : v.toCells = [v] := by cases v <;> simp [oneCell] at hs <;> rfl
    have h2 := Tt.ncells ha
    rw [h1] at ho ⊢
    match hc : l.cells, h2 with
    | [k], _ =>
      rw [hc] at ho
      simp only [okRow, Bool.and_true] at ho
      obtain ⟨g1, g2, _⟩ := okCell_one ho hv
      rw [g1]
      exact ⟨by simp only [LRel]; exact ⟨u, [], rfl, hv, rfl⟩, g2⟩
  · rw [ha] at hs
    simp only [if_true] at hs
    obtain ⟨cs, rfl⟩ := hs
    simp only [VRel] at hv
    obtain ⟨vs, rfl, hr⟩ := hv
    exact ⟨by simpa [AV.toCells, Value.cells] using hr, rfl⟩
/-- a typed value, its cells brought into form -/
theorem packed_norm {l : Ly} {i : TypeInfo} {z : Value} {ty : Nat} (Tt : Ty P l ty i z) {v : AV} {u : Value} (hv : VRel C h v u) (ho : okRow l.cells v.toCells = true) (hs : if l.k.agg then ∃ cs, v = .agg cs else oneCell v = true) : VRel C h (packed l (normRow l v.toCells)) u := by
  obtain ⟨h1, h2⟩ := okRow_zag Tt hv ho hs
  exact packed_rel Tt (lrel_normRow ho h1) h2 (fun ha => by rw [normRow, normFrom_length]; exact Tt.ncells ha)
theorem read_lookup {ty : Nat} {m key : Operand} {ok : Bool} {v : AV} (LK : LOk P C.L) (H : HRel C h) (T : TRel C h t a) (ho : o.op = .lookup ty m key ok) (hv : lookupA C.L h ty (opd t m) (opd t key) ok = some v) : ReadOk P C h a o v := by
  have hm := vrel_opd T m
  have hk := vrel_opd T key
  revert hm hk hv
  generalize opd t m = am
  generalize opd t key = ak
  intro hv hm hk
  unfold lookupA at hv
  cases hkk : (ly C.L ty).k <;> rw [hkk] at hv <;> simp only [reduceCtorEq] at hv
  rename_i kt vt
  cases hkey : okKey (ly C.L kt).k ak
  · simp [hkey] at hv
  cases hvk : (ly C.L vt).k.known
  · simp [hvk] at hv
  simp only [hkey, hvk, Bool.and_self, cond_true] at hv
  obtain ⟨i, z, Ts⟩ := LK.ty (t := ty) (by rw [hkk]; rfl)
  obtain ⟨iv, zv, Tv⟩ := LK.ty hvk
  have hkkn : (ly C.L kt).k.known = true := by cases hq : (ly C.L kt).k <;> rw [hq] at hkey <;> simp [okKey] at hkey <;> rfl
  obtain ⟨ik, zk, Tk⟩ := LK.ty hkkn
  obtain ⟨d, hd, hkd⟩ := Tk.under
  have hu := Ts.map hkk
  have hck := fun em => run_checkKey (em := em) hd hkd hkey (u := a.eval key) 9999 C.w
  -- what comes out, of what is found
  have out : ∀ (r : Option AV) (y : Value), (match r with | none => y = zv | some v => okRow (ly C.L vt).cells v.toCells = true ∧ (if (ly C.L vt).k.agg then ∃ cs, v = .agg cs else oneCell v = true) ∧ VRel C h v y) →
      VRel C h (bif ok then .tup [packed (ly C.L vt) (normRow (ly C.L vt) (orZ (packed (ly C.L vt) (zCells (ly C.L vt))) r).toCells), .bool (isSm r)] else packed (ly C.L vt) (normRow (ly C.L vt) (orZ (packed (ly C.L vt) (zCells (ly C.L vt))) r).toCells)) (if ok then .tuple #[y, .bool (isSm r)] else y) := by
    intro r y hy
    have hp : VRel C h (packed (ly C.L vt) (normRow (ly C.L vt) (orZ (packed (ly C.L vt) (zCells (ly C.L vt))) r).toCells)) y := by
      cases r with
      | none =>
        simp only at hy
        subst hy
        simp only [orZ]
        have hz : (packed (ly C.L vt) (zCells (ly C.L vt))).toCells = zCells (ly C.L vt) := by
          unfold packed
          cases ha : (ly C.L vt).k.agg
          · have h1 := Tv.ncells ha
            unfold zCells
            match hc : (ly C.L vt).cells, h1 with
            | [k], _ => cases k <;> rfl
          · rfl
        rw [hz]
        exact packed_rel Tv (lrel_normRow (zs_okRow Tv.zs) Tv.zrel) Tv.zag (fun ha => by rw [normRow, normFrom_length]; exact Tv.ncells ha)
      | some v => exact packed_norm Tv hy.2.2 hy.1 hy.2.1
    cases ok
    · exact hp
    · simp only [cond_true, if_true, VRel]
      exact ⟨[y, .bool (isSm r)], rfl, by simp only [LRel, VRel]; exact ⟨y, _, rfl, hp, _, _, rfl, rfl, rfl⟩⟩
  have fin : ∀ (r : Option AV) (y : Value) , (Instr.lookup ty (a.eval m) (a.eval key) ok).run P C.w = .ok (if ok then .tuple #[y, .bool (isSm r)] else y) C.w → (match r with | none => y = zv | some v => okRow (ly C.L vt).cells v.toCells = true ∧ (if (ly C.L vt).k.agg then ∃ cs, v = .agg cs else oneCell v = true) ∧ VRel C h v y) → v = (bif ok then .tup [packed (ly C.L vt) (normRow (ly C.L vt) (orZ (packed (ly C.L vt) (zCells (ly C.L vt))) r).toCells), .bool (isSm r)] else packed (ly C.L vt) (normRow (ly C.L vt) (orZ (packed (ly C.L vt) (zCells (ly C.L vt))) r).toCells)) → ReadOk P C h a o v := by
    intro r y g1 g2 g3
    exact ⟨if ok then .tuple #[y, .bool (isSm r)] else y, by simp [execOp, ho, g1], by rw [g3]; exact out r y g2⟩
  cases am <;> simp only [reduceCtorEq, Option.some.injEq] at hv
  case nilmap =>
    simp only [VRel] at hm
    refine fin none zv ?_ rfl hv.symm
    rw [hm]
    simp [Instr.lookup, run_underlying hu, hck, Instr.findKey, run_underlying hd, Instr.findNow, Tv.run_zero, isSm]
  case map oo =>
    simp only [VRel, RefOk] at hm
    replace hm := hm.2
    cases hn : nth .dead h oo with
    | dead => rw [hn] at hv; cases hv
    | box _ _ => rw [hn] at hv; cases hv
    | arr _ _ _ _ _ => rw [hn] at hv; cases hv
    | mp t' es =>
      rw [hn] at hv hm
      simp only [cond_eq_ite, nbeq] at hv
      split at hv
      case isFalse => cases hv
      rename_i htt; subst htt
      simp only [Option.some.injEq] at hv
      have hob := H.obj oo hm.1
      rw [hn] at hob
      obtain ⟨kt', vt', xs, ck, q1, q2, q3⟩ := hmap_obj hob
      rw [hkk] at q1
      simp only [K.map.injEq] at q1
      obtain ⟨rfl, rfl⟩ := q1
      obtain ⟨r, g1, g2⟩ := findNow_ok hkd hkey hk es xs.toList 0 q3
      have hget : (getObj (C.mu oo)).run P C.w = .ok (.map xs ck) C.w := by simp [getObj, Sem.run, q2]
      cases r with
      | none =>
        refine fin none zv ?_ rfl (by rw [← hv, g2.1]; simp [cond_eq_ite])
        rw [hm.2]
        simp [Instr.lookup, run_underlying hu, hget, hck, Instr.findKey, run_underlying hd, g1, Tv.run_zero, isSm]
          | some r =>
        obtain ⟨k, y⟩ := r
        obtain ⟨j, v', a1, a2, a3, a4, a5, a6⟩ := g2
        obtain ⟨j', b1, b2⟩ := mpGet_mem a3
        obtain ⟨e, c1, c2⟩ := entsRel_nth q3 j' b1
        obtain ⟨d1, d2, d3, d4, d5⟩ := c2
        rw [b2] at d3 d4
        refine fin (some v') y ?_ ⟨d3, d4, a4⟩ (by rw [← hv, a3]; simp [cond_eq_ite])
        rw [hm.2]
        simp [Instr.lookup, run_underlying hu, hget, hck, Instr.findKey, run_underlying hd, g1, isSm]
    end
end Go.Ev
/- The engine, part 9: one object written, or laid; the operations that do so. -/
namespace Go.Ev
open Go

section
variable {P : Program} {C C' : Cx} {h h' : List AObj} {t : List AV} {a : Act} {o : Oper} {nt : Nat}

theorem live_lt {oo : Nat} {x : AObj} (hx : HObj C h oo x) (hl : live x = true) : C.mu oo < C.w.heap.size := by
  have key : ∀ y, C.w.heap[C.mu oo]? = some y → C.mu oo < C.w.heap.size := fun y hy => (Array.getElem?_eq_some_iff.1 hy).1
  cases x with
  | dead => simp [live] at hl
  | box e row => obtain ⟨cs, h1, _⟩ := hx; exact key _ h1
  | arr e rows c ver fz =>
    simp [live] at hl
    obtain ⟨cs, h1, _⟩ := hx.2.2 hl
    exact key _ h1
  | mp tt es => obtain ⟨_, _, xs, ck, _, h1, _⟩ := hmap_obj hx; exact key _ h1
theorem rowAt_ext (E : Ext C h C' h') {e : Nat} {cs : Array Value} {off : Nat} {r : Row} (hr : RowAt C h e cs off r) : RowAt C' h' e cs off r := by
  obtain ⟨h1, vs, h2, h3⟩ := hr
  exact ⟨by rw [E.L]; exact h1, vs, lrel_ext E h2, h3⟩
theorem entsRel_ext (E : Ext C h C' h') {kt vt : Nat} : ∀ {es : List (AV × AV)} {xs : List MapEntry}, EntsRel C h kt vt es xs → EntsRel C' h' kt vt es xs
  | [], xs, hr => by simpa only [EntsRel] using hr
  | p :: ps, xs, hr => by
    simp only [EntsRel] at hr ⊢
    obtain ⟨q, qs, rfl, ⟨a1, a2, a3, a4, a5⟩, h2⟩ := hr
    exact ⟨q, qs, rfl, ⟨by rw [E.L]; exact a1, vrel_ext E a2, by rw [E.L]; exact a3, by rw [E.L]; exact a4, vrel_ext E a5⟩, entsRel_ext E h2⟩
/-- An object that nobody touched. -/
theorem hobj_ext (E : Ext C h C' h') {oo : Nat} {x : AObj} (hx : HObj C h oo x) (hmu : C'.mu oo = C.mu oo) (hk : C'.kap oo = C.kap oo) (hb : live x = true → C'.w.heap[C.mu oo]? = C.w.heap[C.mu oo]?)
    (hS : live x = true → ∀ t y, C'.S t (C.mu oo) y → C.S t (C.mu oo) y) : HObj C' h' oo x := by
  cases x with
  | dead => trivial
  | box e row =>
    obtain ⟨cs, h1, h2, h3, h4, h5⟩ := hx
    exact ⟨cs, by rw [hmu, hb rfl]; exact h1, h2, fun t y hq => h3 t y (hS rfl t y (hmu ▸ hq)), lrel_ext E h4, h5⟩
  | arr e rows c ver fz =>
    obtain ⟨h0, h1, h2⟩ := hx
    refine ⟨h0, fun hn => by rw [hk]; exact h1 hn, fun hn => ?_⟩
    have hl : live (.arr e rows c ver fz) = true := by simp [live, hn]
    obtain ⟨cs, g1, g2, g3, g4, g5⟩ := h2 hn
    have hes : C'.es e = C.es e := by simp only [Cx.es, E.L]
    refine ⟨cs, by rw [hmu, hb hl]; exact g1, by rw [hk, hes]; exact g2, by rw [hk]; exact g3, fun t y hy hq => g4 t y (hes ▸ hy) (hS hl t y (hmu ▸ hq)), fun i hi => ?_⟩
    rw [hes]; exact rowAt_ext E (g5 i hi)
  | mp tt es =>
    obtain ⟨kt, vt, xs, ck, h1, h2, h3⟩ := hmap_obj hx
    simp only [HObj, E.L, h1]
    exact ⟨xs, ck, by rw [hmu, hb rfl]; exact h2, entsRel_ext E h3⟩

def objOk (C C' : Cx) (k : Nat) : AObj → AObj → Prop
  | _, .dead => True
  | .dead, _ => False
  | .box _ _, .box _ _ => C'.mu k = C.mu k
  | .mp _ _, .mp _ _ => C'.mu k = C.mu k
  | .arr e rows c v _, .arr e' rows' c' v' _ => v ≤ v' ∧ (v = v' → e' = e ∧ rows'.length = rows.length ∧ c' = c ∧ C'.mu k = C.mu k ∧ C'.kap k = C.kap k)
  | _, _ => False
theorem objOk_self {k : Nat} (x : AObj) (hmu : C'.mu k = C.mu k) (hk : C'.kap k = C.kap k) : objOk C C' k x x := by
  cases x <;> simp [objOk, hmu, hk]
theorem ext_of (hL : C'.L = C.L) (hS : ∀ t b x, C.S t b x → C'.S t b x ∧ cellAt C'.w b x = cellAt C.w b x) (hlen : h.length ≤ h'.length) (hobj : ∀ o, o < h.length → objOk C C' o (nth .dead h o) (nth .dead h' o)) : Ext C h C' h' :=
  ⟨hL, hS, hlen, fun o ho => by
    have := hobj o ho
    revert this
    cases nth .dead h o <;> cases nth .dead h' o <;> simp [objOk]⟩

/-- One object, k, is written or laid; all else is as it was. -/
theorem step_one (H : HRel C h) (k : Nat) (hL : C'.L = C.L) (hlen : h.length ≤ h'.length) (hlen' : ∀ oo, h.length ≤ oo → oo < h'.length → oo = k)
    (hother : ∀ oo, oo ≠ k → nth .dead h' oo = nth .dead h oo) (hmu : ∀ oo, oo ≠ k → C'.mu oo = C.mu oo) (hkap : ∀ oo, oo ≠ k → C'.kap oo = C.kap oo)
    (hS : ∀ t b x, C.S t b x → C'.S t b x ∧ cellAt C'.w b x = cellAt C.w b x)
    (hos : C'.w.os = C.w.os) (htape : C'.w.tape = C.w.tape) (hout : C'.w.output = C.w.output) (hsize : C.w.heap.size ≤ C'.w.heap.size)
    (hblk : ∀ b, b < C.w.heap.size → (k < h.length → live (nth .dead h k) = true → C.mu k ≠ b) → C'.w.heap[b]? = C.w.heap[b]?)
    (hkobj : k < h.length → objOk C C' k (nth .dead h k) (nth .dead h' k))
    (hknew : k < h'.length → live (nth .dead h' k) = true → (k < h.length ∧ live (nth .dead h k) = true ∧ C.mu k = C'.mu k) ∨ C.w.heap.size ≤ C'.mu k)
    (hSnew : ∀ t b x, C'.S t b x → C.S t b x ∨ (t = nt ∧ ((k < h.length ∧ live (nth .dead h k) = true ∧ C.mu k = b) ∨ C.w.heap.size ≤ b)))
    (hfix : ∀ t b x, C'.S t b x → b < C'.w.heap.size)
    (hobj : Ext C h C' h' → k < h'.length → HObj C' h' k (nth .dead h' k)) : Step nt C h C' h' ∧ HRel C' h' := by
  have E : Ext C h C' h' := ext_of hL hS hlen fun oo ho => by
    by_cases hk : oo = k
    · subst hk; exact hkobj ho
    · rw [hother oo hk]; exact objOk_self _ (hmu oo hk) (hkap oo hk)
  have hlt : ∀ oo, oo ≠ k → oo < h'.length → oo < h.length := fun oo hk ho => Nat.lt_of_not_le fun hq => hk (hlen' oo hq ho)
  refine ⟨⟨E, hos, htape, hout, hsize, fun b hb hn => hblk b hb (fun h1 h2 => hn k h1 h2), fun oo ho hl => ?_, fun t b x hq => ?_⟩, ⟨fun oo ho => ?_, fun oo oo' ho ho' hl hl' he => ?_, hfix⟩⟩
  · by_cases hk : oo = k
    · subst hk
      rcases hknew ho hl with ⟨a1, a2, a3⟩ | a
      · exact .inl ⟨oo, a1, a2, a3⟩
      · exact .inr a
    · rw [hother oo hk] at hl
      exact .inl ⟨oo, hlt oo hk ho, hl, (hmu oo hk).symm⟩
  · rcases hSnew t b x hq with h1 | ⟨rfl, h1⟩
    · exact .inl h1
    · refine .inr ⟨rfl, ?_⟩
      rcases h1 with ⟨a1, a2, a3⟩ | h1
      · exact .inl ⟨k, a1, a2, a3⟩
      · exact .inr h1
  · by_cases hk : oo = k
    · subst hk; exact hobj E ho
    · rw [hother oo hk]
      have ho2 := hlt oo hk ho
      refine hobj_ext E (H.obj oo ho2) (hmu oo hk) (hkap oo hk) (fun hl => ?_) (fun hl t y hq => ?_)
      · refine hblk _ (live_lt (H.obj oo ho2) hl) (fun h1 h2 he => hk (H.inj oo k ho2 h1 hl h2 he.symm))
      · rcases hSnew t _ y hq with h1 | ⟨_, h1⟩
        · exact h1
        · rcases h1 with ⟨a1, a2, a3⟩ | h1
          · exact absurd (H.inj oo k ho2 a1 hl a2 a3.symm) hk
          · have := live_lt (H.obj oo ho2) hl; omega
  · by_cases hk : oo = k
    · by_cases hk' : oo' = k
      · rw [hk, hk']
      · subst hk
        have ho2 := hlt oo' hk' ho'
        rw [hother oo' hk'] at hl'
        rw [hmu oo' hk'] at he
        rcases hknew ho hl with ⟨a1, a2, a3⟩ | a1
        · exact H.inj oo oo' a1 ho2 a2 hl' (a3.trans he)
        · have := live_lt (H.obj oo' ho2) hl'; omega
    · have ho2 := hlt oo hk ho
      rw [hother oo hk] at hl
      rw [hmu oo hk] at he
      by_cases hk' : oo' = k
      · subst hk'
        rcases hknew ho' hl' with ⟨a1, a2, a3⟩ | a1
        · exact H.inj oo oo' ho2 a1 hl a2 (he.trans a3.symm)
        · have := live_lt (H.obj oo ho2) hl; omega
      · rw [hother oo' hk'] at hl'
        rw [hmu oo' hk'] at he
        exact H.inj oo oo' ho2 (hlt oo' hk' ho') hl hl' he

/-- What an operation that goes through comes to. -/
def OpOk (P : Program) (nt : Nat) (C : Cx) (h : List AObj) (a : Act) (o : Oper) (v : AV) (h' : List AObj) : Prop :=
  ∀ (K : Act → World → Prop) (Q : Exit → Act → World → Prop), (∀ C' x, Step nt C h C' h' → HRel C' h' → VRel C' h' v x → K (a.put o.dst x) C'.w) → o.wp P a C.w K Q
theorem ReadOk.op {v : AV} (H : HRel C h) (hr : ReadOk P C h a o v) : OpOk P nt C h a o v h := fun K Q hK => by
  obtain ⟨x, h1, h2⟩ := hr
  unfold Oper.wp
  rw [h1]
  exact hK C x (Step.refl nt C h) H h2
/-- an operation that hands back a value and leaves a new world -/
theorem op_value {v : AV} {x : Value} (hr : (execOp a.eval o).run P C.w = .ok (.value x) C'.w) (hs : Step nt C h C' h') (H : HRel C' h') (hv : VRel C' h' v x) : OpOk P nt C h a o v h' := fun K Q hK => by
  unfold Oper.wp
  rw [hr]
  exact hK C' x hs H hv
theorem op_skip (hr : (execOp a.eval o).run P C.w = .ok .skip C'.w) (hs : Step nt C h C' h') (H : HRel C' h') : OpOk P nt C h a o .u h' := fun K Q hK => by
  unfold Oper.wp
  rw [hr]
  exact hK C' undef hs H (by simp only [VRel])

/-- the context with one object more, in a new block -/
def Cx.lay (C : Cx) (n : Nat) (w' : World) (b cap : Nat) : Cx := { C with w := w', mu := fun o => if o = n then b else C.mu o, kap := fun o => if o = n then cap else C.kap o }
theorem cellAt_alloc (w : World) (x : Obj) {b off : Nat} (hb : b < w.heap.size) : cellAt (w.alloc x) b off = cellAt w b off := by
  simp only [cellAt]; exact World.cell?_alloc_lt _ _ _ hb
/-- A new object in a new block. -/
theorem step_lay (H : HRel C h) (x : AObj) (ob : Obj) (w' : World) (cap : Nat) (hw : w'.heap = C.w.heap.push ob) (hos : w'.os = C.w.os) (htape : w'.tape = C.w.tape) (hout : w'.output = C.w.output)
    (hx : Ext C h (C.lay h.length w' C.w.heap.size cap) (h ++ [x]) → HObj (C.lay h.length w' C.w.heap.size cap) (h ++ [x]) h.length x) :
    Step nt C h (C.lay h.length w' C.w.heap.size cap) (h ++ [x]) ∧ HRel (C.lay h.length w' C.w.heap.size cap) (h ++ [x]) := by
  have hsz : w'.heap.size = C.w.heap.size + 1 := by rw [hw]; simp
  have hold : ∀ b, b < C.w.heap.size → w'.heap[b]? = C.w.heap[b]? := fun b hb => by rw [hw, Array.getElem?_push_lt hb]; simp [hb]
  have hn : nth .dead (h ++ [x]) h.length = x := by rw [nth_append]; simp [nth]
  refine step_one H h.length rfl (by simp) (fun oo h1 h2 => by simp at h2; omega) (fun oo hk => ?_) (fun oo hk => by simp [Cx.lay, hk]) (fun oo hk => by simp [Cx.lay, hk]) (fun t b y hq => ⟨hq, ?_⟩) hos htape hout (by simp [Cx.lay, hsz])
    (fun b hb _ => hold b hb) (fun hq => absurd hq (by simp)) (fun _ _ => .inr (by simp [Cx.lay])) (fun t b y hq => .inl hq) (fun t b y hq => by simp [Cx.lay, hsz]; have := H.fix t b y hq; omega) (fun E _ => by rw [hn]; exact hx E)
  · rw [nth_append]
    split
    · rfl
    · rename_i hlt
      rw [nth_ge _ h _ (by omega), nth_ge _ _ _ (by simp; omega)]
  · have := H.fix t b y hq
    simp only [cellAt, World.cell?, Cx.lay, hold b this]

theorem op_alloc {e : Nat} (LK : LOk P C.L) (H : HRel C h) (ho : o.op = .alloc e) (hk : (ly C.L e).k.known = true) : OpOk P nt C h a o (.ptr h.length 0 0 0) (h ++ [.box e (zCells (ly C.L e))]) := by
  obtain ⟨i, z, Te⟩ := LK.ty hk
  obtain ⟨hs, hH⟩ := step_lay (nt := nt) H (.box e (zCells (ly C.L e))) (.cells z.cells e) (C.w.alloc (.cells z.cells e)) 0 rfl rfl rfl rfl (fun E =>
    ⟨z.cells, by simp only [Cx.lay, if_true]; exact heap_alloc_new _ _, by have := lrel_length (Te.zrel (C := C) (h := h)); simpa using this, fun t x hq => by have := H.fix _ _ _ hq; simp [Cx.lay] at this, Te.zrel, trivial⟩)
  refine op_value (x := .pointer (some ⟨C.w.heap.size, 0, none⟩)) ?_ hs hH ?_
  · simp [execOp, ho, Instr.alloc, Te.run_zero, newVar, newRow, Cx.lay]
  · simp only [VRel, RefOk]
    refine ⟨⟨rfl, rfl⟩, by simp, ?_⟩
    rw [nth_append]; simp [nth, Cx.lay]

/-- the cells of a value that is boxed or stored -/
theorem one_of {v : AV} {u : Value} (h1 : oneCell v = true) (hv : VRel C h v u) : OneV u := by
  cases v <;> simp [oneCell] at h1 <;> (try simp only [VRel] at hv)
  case int => subst hv; exact ⟨rfl, rfl⟩
  case bool => subst hv; exact ⟨rfl, rfl⟩
  case str => subst hv; exact ⟨rfl, rfl⟩
  case ps => obtain ⟨_, _, rfl, _⟩ := hv; exact ⟨rfl, rfl⟩
  case own => exact hv.1
  case sl => exact hv.1
  case ptr => exact hv.1
  case map => exact hv.1
  case nilptr => subst hv; exact ⟨rfl, rfl⟩
  case func f cs =>
    cases f with
    | none => simp only [VRel] at hv; subst hv; exact ⟨rfl, rfl⟩
    | some f => simp only [VRel] at hv; obtain ⟨_, rfl, _⟩ := hv; exact ⟨rfl, rfl⟩
  case nilmap => subst hv; exact ⟨rfl, rfl⟩
  case iface => obtain ⟨_, rfl, _⟩ := hv; exact ⟨rfl, rfl⟩
  case niliface => subst hv; exact ⟨rfl, rfl⟩
theorem box_cells {v : AV} {u : Value} (hv : VRel C h v u) (h1 : allOne v.toCells = true) : LRel C h v.toCells u.cells.toList := by
  have single : v.toCells = [v] → LRel C h v.toCells u.cells.toList := fun he => by
    rw [he] at h1 ⊢
    simp only [allOne, Bool.and_true] at h1
    rw [(one_of h1 hv).1]
    simp only [LRel]; exact ⟨u, [], rfl, hv, rfl⟩
  cases v <;> (try exact single rfl)
  case agg cs =>
    simp only [VRel] at hv
    obtain ⟨vs, rfl, hr⟩ := hv
    simpa [AV.toCells, Value.cells] using hr
theorem lrel_one : ∀ {cs : List AV} {us : List Value}, allOne cs = true → LRel C h cs us → ∀ u ∈ us, u.oneCell' = true
  | [], us, _, hr, u, hu => by simp only [LRel] at hr; subst hr; simp at hu
  | c :: cs, us, h1, hr, u, hu => by
    simp only [allOne, Bool.and_eq_true] at h1
    simp only [LRel] at hr
    obtain ⟨v, vs, rfl, g1, g2⟩ := hr
    rcases List.mem_cons.1 hu with rfl | hu
    · exact (one_of h1.1 g1).2
    · exact lrel_one h1.2 g2 u hu
theorem lenIs_iff {α : Type} : ∀ {xs : List α} {n : Nat}, lenIs xs n = true → xs.length = n
  | [], 0, _ => rfl
  | [], _ + 1, hl => by simp [lenIs] at hl
  | _ :: _, 0, hl => by simp [lenIs] at hl
  | _ :: xs, n + 1, hl => by simp only [lenIs] at hl; simp [lenIs_iff hl]
theorem op_box {e : Nat} {x : Operand} (H : HRel C h) (T : TRel C h t a) (ho : o.op = .box e x) (hl : lenIs (opd t x).toCells (ly C.L e).cells.length = true) (h1 : allOne (opd t x).toCells = true) : OpOk P nt C h a o (.ptr h.length 0 0 0) (h ++ [.box e (opd t x).toCells]) := by
  have hr := box_cells (vrel_opd T x) h1
  obtain ⟨hs, hH⟩ := step_lay (nt := nt) H (.box e (opd t x).toCells) (.cells (a.eval x).cells e) (C.w.alloc (.cells (a.eval x).cells e)) 0 rfl rfl rfl rfl (fun E =>
    ⟨(a.eval x).cells, by simp only [Cx.lay, if_true]; exact heap_alloc_new _ _, by have := lrel_length hr; simpa using this, fun t x hq => by have := H.fix _ _ _ hq; simp [Cx.lay] at this, lrel_ext E hr, trivial⟩)
  refine op_value (x := .pointer (some ⟨C.w.heap.size, 0, none⟩)) ?_ hs hH ?_
  · simp [execOp, ho, Instr.box, newVar, newRow, Cx.lay]
  · simp only [VRel, RefOk]
    refine ⟨⟨rfl, rfl⟩, by simp, ?_⟩
    rw [nth_append]; simp [nth, Cx.lay]
end
end Go.Ev
/- The engine, part 10: stores; literals; freezing. -/
namespace Go.Ev
open Go

section
variable {P : Program} {C C' : Cx} {h h' : List AObj} {t : List AV} {a : Act} {o : Oper} {nt : Nat}

def Cx.wr (C : Cx) (w' : World) : Cx := { C with w := w' }
def splice (cur : Array Value) (off : Nat) (vs : List Value) : Array Value := (cur.toList.take off ++ vs ++ cur.toList.drop (off + vs.length)).toArray
theorem splice_get {cur : Array Value} {off : Nat} {vs : List Value} (hl : off + vs.length ≤ cur.size) (j : Nat) : (splice cur off vs)[j]? = if off ≤ j ∧ j < off + vs.length then vs[j - off]? else cur[j]? := by
  unfold splice
  have h1 : (cur.toList.take off).length = off := by simp; omega
  rw [List.getElem?_toArray]
  by_cases ha : j < off
  · rw [if_neg (by omega), List.append_assoc, List.getElem?_append_left (by omega), List.getElem?_take_of_lt ha, Array.getElem?_toList]
  · by_cases hb : j < off + vs.length
    · rw [if_pos ⟨by omega, hb⟩, List.append_assoc, List.getElem?_append_right (by omega), List.getElem?_append_left (by omega), h1]
    · rw [if_neg (by omega), List.getElem?_append_right (by simp; omega), List.getElem?_drop]
      simp only [List.length_append, h1, Array.getElem?_toList]
      congr 1; omega
theorem splice_size {cur : Array Value} {off : Nat} {vs : List Value} (hl : off + vs.length ≤ cur.size) : (splice cur off vs).size = cur.size := by
  unfold splice; simp; omega
theorem upds_length {α : Type} : ∀ (cs : List α) (row : List α) (j : Nat), (upds row j cs).length = row.length
  | [], row, j => rfl
  | c :: cs, row, j => by simp only [upds]; rw [upds_length cs, upd_length]
theorem nth_upds {α : Type} (d : α) : ∀ (cs row : List α) (j i : Nat), j + cs.length ≤ row.length → nth d (upds row j cs) i = if j ≤ i ∧ i < j + cs.length then nth d cs (i - j) else nth d row i
  | [], row, j, i, _ => by rw [if_neg (by simp)]; rfl
  | c :: cs, row, j, i, hl => by
    simp only [upds, List.length_cons] at hl ⊢
    rw [nth_upds d cs (upd row j c) (j + 1) i (by rw [upd_length]; omega), nth_upd]
    by_cases h1 : i = j
    · subst h1
      rw [if_neg (by omega), if_pos ⟨rfl, by omega⟩, if_pos ⟨by omega, by omega⟩]; simp [nth]
    · by_cases h2 : j + 1 ≤ i ∧ i < j + 1 + cs.length
      · rw [if_pos h2, if_pos ⟨by omega, by omega⟩]
        obtain ⟨m, hm⟩ : ∃ m, i - j = m + 1 := ⟨i - j - 1, by omega⟩
        rw [hm]; simp only [nth]; congr 1; omega
      · rw [if_neg h2, if_neg (by omega), if_neg (by omega)]
theorem lrel_upds {row cs : List AV} {us vs : List Value} {j : Nat} (hr : LRel C h row us) (hc : LRel C h cs vs) (hl : j + cs.length ≤ row.length) : LRel C h (upds row j cs) (splice us.toArray j vs).toList := by
  have l1 := lrel_length hr
  have l2 := lrel_length hc
  have hs : j + vs.length ≤ us.toArray.size := by simp; omega
  refine lrel_of (by rw [upds_length, Array.length_toList, splice_size hs]; simpa using l1) (fun i v hv => ?_)
  rw [Array.getElem?_toList, splice_get hs] at hv
  rw [nth_upds _ _ _ _ _ hl]
  by_cases hb : j ≤ i ∧ i < j + cs.length
  · rw [if_pos hb]
    rw [if_pos (by omega)] at hv
    obtain ⟨u, g1, g2⟩ := lrel_nth hc (i - j) (by omega)
    rw [g1] at hv
    simp only [Option.some.injEq] at hv
    subst hv; exact g2
  · rw [if_neg hb]
    rw [if_neg (by omega)] at hv
    have hi : i < row.length := by
      have := (List.getElem?_eq_some_iff.1 (by simpa using hv : us[i]? = some v)).1; omega
    obtain ⟨u, g1, g2⟩ := lrel_nth hr i hi
    have : us[i]? = some v := by simpa using hv
    rw [g1] at this
    simp only [Option.some.injEq] at this
    subst this; exact g2
theorem allOne_nth : ∀ {cs : List AV}, allOne cs = true ↔ ∀ i, i < cs.length → oneCell (nth .u cs i) = true
  | [] => by simp [allOne]
  | c :: cs => by
    simp only [allOne, Bool.and_eq_true, allOne_nth (cs := cs)]
    constructor
    · rintro ⟨h1, h2⟩ i hi
      cases i with
      | zero => exact h1
      | succ i => exact h2 i (by simpa using hi)
    · intro hq
      exact ⟨hq 0 (by simp), fun i hi => hq (i + 1) (by simpa using hi)⟩
theorem allOne_upds {row cs : List AV} {j : Nat} (h1 : allOne row = true) (h2 : allOne cs = true) (hl : j + cs.length ≤ row.length) : allOne (upds row j cs) = true := by
  rw [allOne_nth] at *
  intro i hi
  rw [upds_length] at hi
  rw [nth_upds _ _ _ _ _ hl]
  split
  · exact h2 _ (by omega)
  · exact h1 _ hi

/-- A living object is written in its block. -/
theorem step_write (H : HRel C h) {k : Nat} (hk : k < h.length) (hl : live (nth .dead h k) = true) {cur cur' : Array Value} {e : Nat} (hg : C.w.heap[C.mu k]? = some (.cells cur e (0, 0))) (x' : AObj)
    (hok : objOk C (C.wr (C.w.setRow (C.mu k) cur')) k (nth .dead h k) x') (hS : ∀ t x, C.S t (C.mu k) x → cur'[x]? = cur[x]?)
    (hobj : Ext C h (C.wr (C.w.setRow (C.mu k) cur')) (upd h k x') → HObj (C.wr (C.w.setRow (C.mu k) cur')) (upd h k x') k x') :
    Step nt C h (C.wr (C.w.setRow (C.mu k) cur')) (upd h k x') ∧ HRel (C.wr (C.w.setRow (C.mu k) cur')) (upd h k x') := by
  have hn : nth .dead (upd h k x') k = x' := by rw [nth_upd, if_pos ⟨rfl, hk⟩]
  refine step_one H k rfl (by rw [upd_length]; exact Nat.le_refl _) (fun oo h1 h2 => by rw [upd_length] at h2; omega) (fun oo hq => by rw [nth_upd, if_neg (by omega)]) (fun oo hq => rfl) (fun oo hq => rfl) (fun t b y hq => ⟨hq, ?_⟩) rfl rfl rfl (by simp [Cx.wr])
    (fun b hb hq => ?_) (fun _ => by rw [hn]; exact hok) (fun _ _ => .inl ⟨hk, hl, rfl⟩) (fun t b y hq => .inl hq) (fun t b y hq => by simpa [Cx.wr] using H.fix t b y hq) (fun E _ => by rw [hn]; exact hobj E)
  · simp only [cellAt, Cx.wr]
    by_cases hb : b = C.mu k
    · subst hb
      rw [cell_setRow_same _ _ _ cur _ e _ hg, hS t y hq]
      simp [World.cell?, hg]
    · rw [cell_setRow_other _ _ _ _ hb]
  · simp only [Cx.wr]
    exact setRow_other _ _ _ _ (fun he => hq hk hl he.symm)

theorem run_storeVar {e : Nat} {i : TypeInfo} {z : Value} (Te : Ty P (ly C.L e) e i z) {b off : Nat} {cur : Array Value} {ce : Nat} (hg : C.w.heap[b]? = some (.cells cur ce (0, 0))) {u : Value} (hsz : u.cells.size = (ly C.L e).cells.length)
    (hl : off + u.cells.size ≤ cur.size) (h1 : ∀ v ∈ u.cells.toList, v.oneCell' = true) : (storeVar e ⟨b, off, none⟩ u).run P C.w = .ok () (C.w.setRow b (splice cur off u.cells.toList)) := by
  have := run_storeCells_at P b off ce u.cells.toList 0 cur C.w hg (by simpa using hl) h1
  simp only [Nat.add_zero] at this
  simp only [storeVar, Sem.run_bind, Te.run_sizeOf, Result.andThen_ok, hsz, ne_eq, not_true_eq_false, if_false]
  simp only [this, splice, Sem.run_pure, Result.andThen_ok, Array.length_toList]

theorem storeT_ok {L : List Ly} {ty : Nat} {x v : AV} (hv : storeT L h ty x v = some (true, h')) : storeA L h ty x v = some h' := by
  unfold storeT at hv
  unfold storeA
  cases hc : ((ly L ty).k.known && lenIs v.toCells (ly L ty).cells.length && allOne v.toCells)
  · simp only [hc] at hv; cases hv
  · simp only [hc, cond_true] at hv ⊢
    cases x <;> simp only [reduceCtorEq] at hv ⊢
    rename_i o ver i j
    cases hn : nth .dead h o with
    | dead => rw [hn] at hv; cases hv
    | mp _ _ => rw [hn] at hv; cases hv
    | box e row =>
      rw [hn] at hv
      simp only at hv ⊢
      cases hd : (Nat.beq ver 0 && Nat.beq i 0 && Nat.ble (j + v.toCells.length) row.length)
      · rw [hd] at hv; cases hv
      · rw [hd] at hv
        simp only [cond_true, Option.some.injEq, Prod.mk.injEq, true_and] at hv
        rw [cond_true, hv]
    | arr e rows c w fz =>
      rw [hn] at hv
      simp only at hv ⊢
      cases hd : Nat.beq ver w
      · rw [hd] at hv; cases hv
      · rw [hd] at hv
        simp only [cond_true, Option.some.injEq, Prod.mk.injEq] at hv
        obtain ⟨h1, h2⟩ := hv
        simp only [Bool.true_and]
        rw [h1, cond_true, h2]
theorem op_store {ty : Nat} {x y : Operand} (LK : LOk P C.L) (H : HRel C h) (T : TRel C h t a) (ho : o.op = .store ty x y) (hv : storeA C.L h ty (opd t x) (opd t y) = some h') : OpOk P nt C h a o .u h' := by
  have hx := vrel_opd T x
  have hy := vrel_opd T y
  revert hx hy hv
  generalize opd t x = ax
  generalize opd t y = ay
  intro hv hx hy
  unfold storeA at hv
  simp only [cond_eq_ite] at hv
  split at hv
  case isFalse => cases hv
  rename_i hc
  simp only [Bool.and_eq_true] at hc
  obtain ⟨⟨hkn, hlen⟩, hone⟩ := hc
  have hlen := lenIs_iff hlen
  obtain ⟨i, z, Te⟩ := LK.ty hkn
  have hr := box_cells hy hone
  have hrl := lrel_length hr
  have hsz : (a.eval y).cells.size = (ly C.L ty).cells.length := by rw [← hlen, ← hrl]; simp
  have h1 := lrel_one hone hr
  cases ax <;> simp only [reduceCtorEq] at hv
  rename_i oo ver ii j
  simp only [VRel, RefOk] at hx
  obtain ⟨_, hlt, hx⟩ := hx
  have hob := H.obj oo hlt
  cases hn : nth .dead h oo with
  | dead => rw [hn] at hv; cases hv
  | mp _ _ => rw [hn] at hv; cases hv
  | box e row =>
    rw [hn] at hv hx hob
    simp only [Bool.and_eq_true, nbeq, nble] at hv
    split at hv
    case isFalse => cases hv
    rename_i hc
    obtain ⟨⟨rfl, rfl⟩, hj⟩ := hc
    simp only [Option.some.injEq] at hv
    subst hv
    obtain ⟨cs, g1, g2, g3, g4, g5⟩ := hob
    have hfit : j + (a.eval y).cells.toList.length ≤ cs.size := by rw [hrl, g2]; exact hj
    have hst := run_storeVar (C := C) Te g1 hsz (by simpa using hfit) h1
    obtain ⟨hs, hH⟩ := step_write (nt := nt) (cur' := splice cs j (a.eval y).cells.toList) H hlt (by rw [hn]; rfl) g1 (.box e (upds row j ay.toCells)) (by rw [hn]; rfl) (fun t x hq => absurd hq (g3 t x)) (fun E =>
      ⟨splice cs j (a.eval y).cells.toList, by simp only [Cx.wr]; exact setRow_heap _ _ _ _ _ _ g1, by rw [splice_size hfit, upds_length, g2], fun t x hq => g3 t x hq, by
        have := lrel_upds g4 hr hj
        rw [Array.toArray_toList] at this
        exact lrel_ext E this, trivial⟩)
    refine op_skip ?_ hs hH
    simp only [execOp, ho, Instr.storeAt, hx, Instr.sureAddr, Sem.run_bind, Sem.run_pure, Result.andThen_ok, hst]
    rfl
  | arr e rows c w fz =>
    rw [hn] at hv hx hob
    simp only [Bool.and_eq_true, nbeq, nble] at hv
    split at hv
    case isFalse => cases hv
    rename_i hc
    obtain ⟨⟨⟨rfl, hfz⟩, hj⟩, hok⟩ := hc
    simp only [Option.some.injEq] at hv
    subst hv
    obtain ⟨hii, hnl, hxv⟩ := hx.2 rfl
    obtain ⟨b1, b2, b3⟩ := hob
    obtain ⟨cs, g1, g2, g3, g4, g5⟩ := b3 hnl
    obtain ⟨hrow, vs, hvs, hcs⟩ := g5 ii hii
    have hvl : vs.length = C.es e := by rw [lrel_length hvs, okRow_length hrow]; rfl
    have hes : (ly C.L e).cells.length = C.es e := rfl
    have hrange : ii * C.es e + C.es e ≤ cs.size := by rw [g2, ← Nat.succ_mul]; exact Nat.mul_le_mul_right _ (by omega)
    have hjl : j + (a.eval y).cells.toList.length ≤ C.es e := by rw [hrl]; exact hj
    have hfit : (ii * C.es e + j) + (a.eval y).cells.toList.length ≤ cs.size := by omega
    have hst := run_storeVar (C := C) Te g1 hsz (by simpa using hfit) h1
    have hSold : ∀ t x, C.S t (C.mu oo) x → (splice cs (ii * C.es e + j) (a.eval y).cells.toList)[x]? = cs[x]? := fun t x hq => by
      rw [splice_get hfit, if_neg]
      intro hr
      have : fz * C.es e ≤ ii * C.es e := Nat.mul_le_mul_right _ hfz
      exact g4 t x (by omega) hq
    obtain ⟨hs, hH⟩ := step_write (nt := nt) (cur' := splice cs (ii * C.es e + j) (a.eval y).cells.toList) H hlt (by rw [hn]; simp [live, hnl]) g1 (.arr e (upd rows ii (upds (normRow (ly C.L e) (nth [] rows ii)) j ay.toCells)) c ver fz)
      (by rw [hn]; exact ⟨Nat.le_refl _, fun _ => ⟨rfl, upd_length _ _ _, rfl, rfl, rfl⟩⟩) hSold (fun E => by
      refine ⟨by rw [upd_length]; exact b1, ?_, fun _ => ⟨splice cs (ii * C.es e + j) (a.eval y).cells.toList, by simp only [Cx.wr]; exact setRow_heap _ _ _ _ _ _ g1, by rw [splice_size hfit]; exact g2, by rw [upd_length]; exact g3, fun t x hx' hq => g4 t x hx' hq, fun i' hi' => ?_⟩⟩
      · intro hq; rw [hnl] at hq; cases hq
      rw [upd_length] at hi'
      show RowAt _ _ e _ (i' * C.es e) _
      rw [nth_upd]
      by_cases he : i' = ii
      · subst he
        rw [if_pos ⟨rfl, hii⟩]
        refine ⟨hok, (splice vs.toArray j (a.eval y).cells.toList).toList, ?_, fun jj hjj => ?_⟩
        · exact lrel_ext E (lrel_upds (lrel_normRow hrow hvs) hr (by rw [normRow, normFrom_length]; exact hj))
        · have hs2 : j + (a.eval y).cells.toList.length ≤ vs.toArray.size := by simp only [List.size_toArray, hvl]; exact hjl
          rw [Array.length_toList, splice_size hs2] at hjj
          simp only [List.size_toArray] at hjj
          rw [Array.getElem?_toList, splice_get hfit, splice_get hs2]
          by_cases hq : j ≤ jj ∧ jj < j + (a.eval y).cells.toList.length
          · rw [if_pos (by omega), if_pos hq]; congr 1; omega
          · rw [if_neg (by omega), if_neg hq, hcs jj hjj]; simp
      · rw [if_neg (by omega)]
        obtain ⟨r1, vs', r2, r3⟩ := rowAt_ext E (g5 i' hi')
        refine ⟨r1, vs', r2, fun jj hjj => ?_⟩
        rw [← r3 jj hjj, splice_get hfit, if_neg]
        intro hr'
        have hvl' : vs'.length = C.es e := by rw [lrel_length r2, okRow_length r1]; rfl
        rcases Nat.lt_or_gt_of_ne he with hlt' | hgt'
        · have : (i' + 1) * C.es e ≤ ii * C.es e := Nat.mul_le_mul_right _ hlt'
          rw [Nat.succ_mul] at this; omega
        · have : (ii + 1) * C.es e ≤ i' * C.es e := Nat.mul_le_mul_right _ hgt'
          rw [Nat.succ_mul] at this; omega)
    refine op_skip ?_ hs hH
    simp only [execOp, ho, Instr.storeAt, hxv, Instr.sureAddr, Sem.run_bind, Sem.run_pure, Result.andThen_ok, hst]
    rfl
end
end Go.Ev
/- The engine, part 11: freezing; literals; appends. -/
namespace Go.Ev
open Go

section
variable {P : Program} {C C' : Cx} {h h' : List AObj} {t : List AV} {a : Act} {o : Oper} {nt : Nat}

theorem rowsRel_of {tg b : Nat} {ks : List CK} : ∀ {rows : List Row} {off : Nat}, (∀ i, i < rows.length → okRow ks (nth [] rows i) = true ∧ CellsRel C h tg b (off + i * ks.length) (nth [] rows i)) → RowsRel C h tg ks b off rows
  | [], off, _ => by simp [RowsRel]
  | r :: rs, off, hr => by
    simp only [RowsRel]
    have h0 := hr 0 (by simp)
    simp only [nth, Nat.zero_mul, Nat.add_zero] at h0
    refine ⟨h0, rowsRel_of fun i hi => ?_⟩
    have h1 := hr (i + 1) (by simpa using hi)
    simp only [nth] at h1
    rwa [show off + (i + 1) * ks.length = off + ks.length + i * ks.length by rw [Nat.succ_mul]; omega] at h1
theorem cellsRel_of {tg b : Nat} : ∀ {cs : List AV} {vs : List Value} {off : Nat}, LRel C h cs vs → (∀ j v, vs[j]? = some v → cellAt C.w b (off + j) = some v) → (∀ j, j < cs.length → C.S tg b (off + j)) → CellsRel C h tg b off cs
  | [], vs, off, _, _, _ => by simp [CellsRel]
  | c :: cs, vs, off, hr, hc, hS => by
    simp only [LRel] at hr
    obtain ⟨v, vs', rfl, h1, h2⟩ := hr
    simp only [CellsRel]
    refine ⟨⟨v, by simpa using hc 0 v rfl, by simpa using hS 0 (by simp), h1⟩, cellsRel_of h2 (fun j u hu => ?_) (fun j hj => ?_)⟩
    · have := hc (j + 1) u (by simpa using hu); rwa [show off + (j + 1) = off + 1 + j by omega] at this
    · have := hS (j + 1) (by simpa using hj); rwa [show off + (j + 1) = off + 1 + j by omega] at this

def Cx.frz (C : Cx) (nt k n : Nat) : Cx := { C with S := fun t b x => C.S t b x ∨ (t = nt ∧ b = C.mu k ∧ x < n) }
theorem step_frz (H : HRel C h) {k e : Nat} {rows : List Row} {c : Cp} {v fz : Nat} (hk : k < h.length) (hn : nth .dead h k = .arr e rows c v fz) :
    Step nt C h (C.frz nt k (rows.length * C.es e)) (upd h k (.arr e rows c v rows.length)) ∧ HRel (C.frz nt k (rows.length * C.es e)) (upd h k (.arr e rows c v rows.length)) ∧
    (rows ≠ [] → c.nl = false ∧ RowsRel (C.frz nt k (rows.length * C.es e)) (upd h k (.arr e rows c v rows.length)) nt (ly C.L e).cells (C.mu k) 0 rows) := by
  have hob := H.obj k hk
  rw [hn] at hob
  obtain ⟨b1, b2, b3⟩ := hob
  have hlive : rows ≠ [] → c.nl = false := own_nl H hk hn
  have hne : ∀ x, x < rows.length * C.es e → rows ≠ [] := fun x hx hq => by subst hq; simp at hx
  have hnn : nth .dead (upd h k (.arr e rows c v rows.length)) k = .arr e rows c v rows.length := by rw [nth_upd, if_pos ⟨rfl, hk⟩]
  obtain ⟨hs, hH⟩ := step_one (C' := C.frz nt k (rows.length * C.es e)) (h' := upd h k (.arr e rows c v rows.length)) (nt := nt) H k rfl (by rw [upd_length]; exact Nat.le_refl _) (fun oo h1 h2 => by rw [upd_length] at h2; omega)
    (fun oo hq => by rw [nth_upd, if_neg (by omega)]) (fun oo hq => rfl) (fun oo hq => rfl) (fun t b y hq => ⟨.inl hq, rfl⟩) rfl rfl rfl (Nat.le_refl _) (fun b hb hq => rfl)
    (fun _ => by rw [hnn, hn]; exact ⟨Nat.le_refl _, fun _ => ⟨rfl, rfl, rfl, rfl, rfl⟩⟩) (fun _ hl => .inl ⟨hk, by rw [hnn] at hl; rw [hn]; exact hl, rfl⟩)
    (fun t b y hq => by
      rcases hq with hq | ⟨rfl, rfl, hy⟩
      · exact .inl hq
      · exact .inr ⟨rfl, .inl ⟨hk, by rw [hn]; simp [live, hlive (hne _ hy)], rfl⟩⟩)
    (fun t b y hq => by
      rcases hq with hq | ⟨rfl, rfl, hy⟩
      · exact H.fix t b y hq
      · exact live_lt (H.obj k hk) (by rw [hn]; simp [live, hlive (hne _ hy)]))
    (fun E _ => by
      rw [hnn]
      refine ⟨Nat.le_refl _, b2, fun hnl => ?_⟩
      obtain ⟨cs, g1, g2, g3, g4, g5⟩ := b3 hnl
      refine ⟨cs, g1, g2, g3, fun t x hx hq => ?_, fun i hi => rowAt_ext E (g5 i hi)⟩
      rcases hq with hq | ⟨rfl, _, hy⟩
      · exact g4 t x (Nat.le_trans (Nat.mul_le_mul_right _ b1) hx) hq
      · exact absurd hy (by simp only [Cx.es, Cx.frz] at hx ⊢; omega))
  refine ⟨hs, hH, fun hrne => ⟨hlive hrne, rowsRel_of fun i hi => ?_⟩⟩
  obtain ⟨cs, g1, g2, g3, g4, g5⟩ := b3 (hlive hrne)
  obtain ⟨r1, vs, r2, r3⟩ := rowAt_ext hs.ext (g5 i hi)
  have hvl : vs.length = C.es e := by rw [lrel_length r2, okRow_length r1]; rfl
  refine ⟨r1, ?_⟩
  rw [Nat.zero_add]
  refine cellsRel_of r2 (fun j u hu => ?_) (fun j hj => .inr ⟨rfl, rfl, ?_⟩)
  · have hj : j < vs.length := (List.getElem?_eq_some_iff.1 hu).1
    exact cellAt_of (C := C.frz nt k (rows.length * C.es e)) g1 (by have := r3 j hj; rw [hu] at this; exact this)
  · have h1 : (nth [] rows i).length = C.es e := okRow_length r1
    have : (i + 1) * C.es e ≤ rows.length * C.es e := Nat.mul_le_mul_right _ hi
    rw [Nat.succ_mul] at this
    show i * C.es e + j < _
    omega

/-- Freezing turns no world; the value stands for what it stood for. -/
theorem frzV_ok (H : HRel C h) {v v' : AV} {x : Value} (hv : VRel C h v x) (hf : frzV nt h v = some (v', h')) : ∃ C', C'.w = C.w ∧ Step nt C h C' h' ∧ HRel C' h' ∧ VRel C' h' v' x := by
  have same : some (v, h) = some (v', h') → ∃ C', C'.w = C.w ∧ Step nt C h C' h' ∧ HRel C' h' ∧ VRel C' h' v' x := fun he => by
    simp only [Option.some.injEq, Prod.mk.injEq] at he
    obtain ⟨rfl, rfl⟩ := he
    exact ⟨C, rfl, Step.refl nt C h, H, hv⟩
  unfold frzV at hf
  split at hf
  · rename_i oo ver
    cases hn : nth .dead h oo with
    | dead => rw [hn] at hf; cases hf
    | box _ _ => rw [hn] at hf; cases hf
    | mp _ _ => rw [hn] at hf; cases hf
    | arr e rows c w fz =>
      rw [hn] at hf
      simp only [cond_eq_ite, nbeq] at hf
      split at hf
      case isFalse => cases hf
      rename_i hc; subst hc
      simp only [Option.some.injEq, Prod.mk.injEq] at hf
      obtain ⟨rfl, rfl⟩ := hf
      obtain ⟨hlt, ad, q1, q2, q3, q4⟩ := own_value hn hv
      obtain ⟨hs, hH, hr⟩ := step_frz (nt := nt) H hlt hn
      refine ⟨C.frz nt oo (rows.length * C.es e), rfl, hs, hH, ?_⟩
      have hob := H.obj oo hlt
      rw [hn] at hob
      obtain ⟨_, b2, b3⟩ := hob
      simp only [VRel]
      refine ⟨ad, C.kap oo, q1, ?_, fun hnl => ⟨q2 hnl, (b2 hnl).2⟩, fun hnl => by rw [q3 hnl]; rfl, fun hq => (by cases hq), fun hne => ?_⟩
      · cases hnl : c.nl
        · obtain ⟨cs, _, _, g3, _⟩ := b3 hnl; exact g3
        · rw [(b2 hnl).1]; exact Nat.zero_le _
      · obtain ⟨g1, g2⟩ := hr hne
        exact ⟨_, _, q3 g1, g2⟩
  · rename_i oo ver off len
    cases hn : nth .dead h oo with
    | dead => rw [hn] at hf; cases hf
    | box _ _ => rw [hn] at hf; cases hf
    | mp _ _ => rw [hn] at hf; cases hf
    | arr e rows c w fz =>
      rw [hn] at hf
      simp only [cond_eq_ite, nbeq] at hf
      split at hf
      case isFalse => cases hf
      rename_i hc; subst hc
      simp only [Option.some.injEq, Prod.mk.injEq] at hf
      obtain ⟨rfl, rfl⟩ := hf
      obtain ⟨hlt, ad, q1, q2, q3, q4, q5⟩ := sl_value hn hv
      obtain ⟨hs, hH, hr⟩ := step_frz (nt := nt) H hlt hn
      have hlen : ((rows.drop off).take len).length = len := by simp; omega
      refine ⟨C.frz nt oo (rows.length * C.es e), rfl, hs, hH, ?_⟩
      simp only [VRel]
      refine ⟨some ad, C.kap oo - off, by rw [hlen]; exact q1, by rw [hlen]; omega, fun hq => (by cases hq), fun _ => rfl, fun hq => (by cases hq), fun hne => ?_⟩
      have hp : 0 < len := by
        apply Nat.pos_of_ne_zero; intro hq; apply hne; apply List.eq_nil_of_length_eq_zero; omega
      have hrne : rows ≠ [] := by intro hq; subst hq; simp at q2; omega
      obtain ⟨g1, g2⟩ := hr hrne
      refine ⟨C.mu oo, off * C.es e, by rw [q5 (by omega)], ?_⟩
      have := rowsRel_take len (rowsRel_drop off g2)
      rwa [Nat.zero_add] at this
  · exact same hf
theorem frzL_ok : ∀ {cs cs' : List AV} {C : Cx} {h h'' : List AObj} {vs : List Value}, HRel C h → LRel C h cs vs → frzL nt h cs = some (cs', h'') → ∃ C', C'.w = C.w ∧ Step nt C h C' h'' ∧ HRel C' h'' ∧ LRel C' h'' cs' vs
  | [], cs', C, h, h'', vs, H, hr, hf => by
    simp only [frzL, Option.some.injEq, Prod.mk.injEq] at hf
    obtain ⟨rfl, rfl⟩ := hf
    exact ⟨C, rfl, Step.refl nt C h, H, hr⟩
  | c :: cs, cs', C, h, h'', vs, H, hr, hf => by
    simp only [LRel] at hr
    obtain ⟨v, vs', rfl, h1, h2⟩ := hr
    simp only [frzL, Option.bind_eq_some_iff] at hf
    obtain ⟨⟨c', h1'⟩, hf1, ⟨cs2, h2'⟩, hf2, hf3⟩ := hf
    simp only [Option.some.injEq, Prod.mk.injEq] at hf3
    obtain ⟨rfl, rfl⟩ := hf3
    obtain ⟨C1, e1, s1, H1, r1⟩ := frzV_ok H h1 hf1
    obtain ⟨C2, e2, s2, H2, r2⟩ := frzL_ok H1 (lrel_ext s1.ext h2) hf2
    refine ⟨C2, e2.trans e1, s1.trans s2, H2, ?_⟩
    simp only [LRel]
    exact ⟨v, vs', rfl, vrel_ext s2.ext r1, r2⟩
theorem frz_ok (H : HRel C h) {v v' : AV} {x : Value} (hv : VRel C h v x) (hf : frz nt h v = some (v', h')) : ∃ C', C'.w = C.w ∧ Step nt C h C' h' ∧ HRel C' h' ∧ VRel C' h' v' x := by
  unfold frz at hf
  split at hf
  · rename_i cs
    simp only [Option.bind_eq_some_iff] at hf
    obtain ⟨⟨cs', h1'⟩, hf1, hf2⟩ := hf
    simp only [Option.some.injEq, Prod.mk.injEq] at hf2
    obtain ⟨rfl, rfl⟩ := hf2
    simp only [VRel] at hv
    obtain ⟨vs, rfl, hr⟩ := hv
    obtain ⟨C1, e1, s1, H1, r1⟩ := frzL_ok H hr hf1
    exact ⟨C1, e1, s1, H1, by simp only [VRel]; exact ⟨vs, rfl, r1⟩⟩
  · exact frzV_ok H hv hf
end
end Go.Ev
/- The engine, part 12: literals of structs and slices; made slices; maps; conversions. -/
namespace Go.Ev
open Go

section
variable {P : Program} {C C' : Cx} {h h' : List AObj} {t : List AV} {a : Act} {o : Oper} {nt : Nat}

theorem foldl_put (off : Nat) : ∀ (l : List Value) (k : Nat) (cells : Array Value), off + k + l.length ≤ cells.size →
    ((l.zipIdx k).foldl (fun cs (p : Value × Nat) => cs.setIfInBounds (off + p.2) p.1) cells).size = cells.size ∧ ∀ j, ((l.zipIdx k).foldl (fun cs (p : Value × Nat) => cs.setIfInBounds (off + p.2) p.1) cells)[j]? = if off + k ≤ j ∧ j < off + k + l.length then l[j - (off + k)]? else cells[j]?
  | [], k, cells, _ => ⟨rfl, fun j => by simp; omega⟩
  | v :: l, k, cells, hl => by
    simp only [List.length_cons] at hl
    obtain ⟨h1, h2⟩ := foldl_put off l (k + 1) (cells.setIfInBounds (off + k) v) (by simp; omega)
    simp only [List.zipIdx_cons, List.foldl_cons]
    refine ⟨by rw [h1]; simp, fun j => ?_⟩
    rw [h2 j]
    simp only [List.length_cons]
    by_cases hj : j = off + k
    · subst hj
      rw [if_neg (by omega), if_pos (by omega), Array.getElem?_setIfInBounds_self_of_lt (by omega)]; simp
    · rw [Array.getElem?_setIfInBounds_ne (Ne.symm hj)]
      by_cases hb : off + (k + 1) ≤ j ∧ j < off + (k + 1) + l.length
      · rw [if_pos hb, if_pos (by omega)]
        obtain ⟨m, hm⟩ : ∃ m, j - (off + k) = m + 1 := ⟨j - (off + k) - 1, by omega⟩
        rw [hm, List.getElem?_cons_succ]; congr 1; omega
      · rw [if_neg hb, if_neg (by omega)]
theorem fill_put {cells : Array Value} {off : Nat} {u : Array Value} (hl : off + u.size ≤ cells.size) : u.zipIdx.foldl (fun cs (c, j) => cs.setIfInBounds (off + j) c) cells = splice cells off u.toList := by
  have h1 := foldl_put off u.toList 0 cells (by simpa using hl)
  have e : u.zipIdx.foldl (fun cs (c, j) => cs.setIfInBounds (off + j) c) cells = (u.toList.zipIdx 0).foldl (fun cs (p : Value × Nat) => cs.setIfInBounds (off + p.2) p.1) cells := by
    rw [← Array.foldl_toList, Array.toList_zipIdx]
  rw [e]
  apply Array.ext_getElem?
  intro j
  rw [h1.2 j, splice_get (by simpa using hl)]
  simp

theorem fill_ok {place : Nat → Option (Nat × Nat)} : ∀ (ps : List (Nat × AV)) (us : List (Nat × Value)) (cs cs' : List AV) (cells : Array Value), us.length = ps.length →
    (∀ (j : Nat) (p : Nat × AV) (u : Nat × Value), ps[j]? = some p → us[j]? = some u → p.1 = u.1 ∧ VRel C h p.2 u.2) → LRel C h cs cells.toList → fillA place cs ps = some cs' → ∃ cells', Instr.fill place cells us = some cells' ∧ LRel C h cs' cells'.toList
  | [], [], cs, cs', cells, _, _, hr, hf => by
    simp only [fillA, Option.some.injEq] at hf
    subst hf
    exact ⟨cells, rfl, hr⟩
  | [], _ :: _, _, _, _, hl, _, _, _ => by simp at hl
  | _ :: _, [], _, _, _, hl, _, _, _ => by simp at hl
  | (i, v) :: ps, (i', u) :: us, cs, cs', cells, hl, hp, hr, hf => by
    obtain ⟨rfl, hv⟩ := hp 0 (i, v) (i', u) rfl rfl
    simp only [fillA, Option.bind_eq_some_iff] at hf
    obtain ⟨⟨off, n⟩, h1, h2⟩ := hf
    simp only [cond_eq_ite, Bool.and_eq_true, nble] at h2
    split at h2
    case isFalse => cases h2
    rename_i hc
    obtain ⟨⟨c1, c2⟩, c3⟩ := hc
    have c1 := lenIs_iff c1
    have hb := box_cells hv c2
    have hbl := lrel_length hb
    have hcl := lrel_length hr
    simp only [Array.length_toList] at hbl hcl
    have hfit : off + u.cells.size ≤ cells.size := by rw [hbl, hcl]; exact c3
    obtain ⟨cells', g1, g2⟩ := fill_ok ps us (upds cs off v.toCells) cs' (splice cells off u.cells.toList) (by simpa using hl) (fun j p q hp' hq' => hp (j + 1) p q (by simpa using hp') (by simpa using hq')) (by
      have := lrel_upds hr hb c3
      rwa [Array.toArray_toList] at this) h2
    refine ⟨cells', ?_, g2⟩
    simp only [Instr.fill, h1]
    rw [if_neg (by rw [hbl, c1]; simp; rw [hbl, c1] at hfit; omega), fill_put hfit]
    exact g1
theorem pairs_rel (T : TRel C h t a) (ps : Array (Nat × Operand)) : ((ps.map fun (i, x) => (i, a.eval x)).toList).length = (pairs t ps).length ∧ ∀ (j : Nat) (p : Nat × AV) (u : Nat × Value), (pairs t ps)[j]? = some p → ((ps.map fun (i, x) => (i, a.eval x)).toList)[j]? = some u → p.1 = u.1 ∧ VRel C h p.2 u.2 := by
  refine ⟨by simp [pairs], fun j p u hp hu => ?_⟩
  simp only [pairs, List.getElem?_map, Array.toList_map] at hp hu
  cases hq : ps.toList[j]? with
  | none => rw [hq] at hp; cases hp
  | some q =>
    rw [hq] at hp hu
    simp only [Option.map_some, Option.some.injEq] at hp hu
    subst hp; subst hu
    exact ⟨rfl, vrel_opd T q.2⟩
theorem run_places {fields : Array Field} (w : World) (hf : ∀ f ∈ fields.toList, ∃ i, P.info? f.type = some i) : (fields.mapM fun f => do pure (f.offset, ← sizeOf f.type) : Sem (Array (Nat × Nat))).run P w = .ok (fields.map fun f => (f.offset, P.cellsOf f.type)) w := by
  have key : ∀ (l : List Field), (∀ f ∈ l, ∃ i, P.info? f.type = some i) → (l.mapM fun f => do pure (f.offset, ← sizeOf f.type) : Sem (List (Nat × Nat))).run P w = .ok (l.map fun f => (f.offset, P.cellsOf f.type)) w := by
    intro l
    induction l with
    | nil => intro _; simp
    | cons f l ih =>
      intro hl
      obtain ⟨i, hi⟩ := hl f (by simp)
      have h1 := ih (fun g hg => hl g (by simp [hg]))
      simp only [List.mapM_cons, Sem.run_bind, sizeOf, typeInfo, run_program, Result.andThen_ok, hi, Sem.run_pure] at h1 ⊢
      rw [h1]
      simp [Program.cellsOf, hi]
  have := key fields.toList hf
  rw [Array.mapM_eq_mapM_toList]
  simp only [Sem.run_map, this, Result.andThen_ok]
  congr 1
  apply Array.ext'
  simp
theorem read_build {ty : Nat} {ps : Array (Nat × Operand)} {v : AV} (LK : LOk P C.L) (T : TRel C h t a) (ho : o.op = .build ty ps) (hv : buildA C.L ty (pairs t ps) = some v) : ReadOk P C h a o v := by
  obtain ⟨hl, hp⟩ := pairs_rel T ps
  unfold buildA at hv
  split at hv
  · rename_i fs hk
    simp only [Option.bind_eq_some_iff, Option.some.injEq] at hv
    obtain ⟨cs, hf, rfl⟩ := hv
    obtain ⟨i, z, Ts⟩ := LK.ty (t := ty) (by rw [hk]; rfl)
    obtain ⟨gs, h5, h6⟩ := Ts.struct hk
    have hfl := LK.fld ty
    simp only [fldOk, hk, List.all_eq_true] at hfl
    have hinfo : ∀ f ∈ gs.toList, ∃ i, P.info? f.type = some i ∧ i.size = (ly C.L f.type).cells.length := fun f hf => by
      have := hfl (f.offset, f.type) (by rw [h6]; exact List.mem_map.2 ⟨f, hf, rfl⟩)
      cases hq : P.info? f.type with
      | none => rw [hq] at this; cases this
      | some i => rw [hq] at this; exact ⟨i, rfl, nbeq.1 this⟩
    have hplace : plcS C.L fs = fun i => (gs.map fun f => (f.offset, P.cellsOf f.type))[i]? := by
      funext i
      simp only [plcS]
      rw [h6, List.getElem?_map, Array.getElem?_map, ← Array.getElem?_toList]
      cases hq : gs.toList[i]? with
      | none => rfl
      | some f =>
        obtain ⟨ii, g1, g2⟩ := hinfo f (List.mem_of_getElem? hq)
        simp [Program.cellsOf, g1, g2]
    rw [hplace] at hf
    obtain ⟨cells', g1, g2⟩ := fill_ok _ ((ps.map fun (i, x) => (i, a.eval x)).toList) _ _ z.cells hl hp Ts.zrel hf
    refine ⟨.agg cells', ?_, by simp only [VRel]; exact ⟨cells'.toList, by simp, g2⟩⟩
    have hpl := run_places (P := P) C.w (fun f hf => let ⟨i, hi, _⟩ := hinfo f hf; ⟨i, hi⟩)
    simp only [execOp, ho, Sem.run_bind, Instr.build, Ts.run_zero, Result.andThen_ok, run_underlying h5, hpl, g1, Sem.run_pure]
  · rename_i n e hk
    simp only [Option.bind_eq_some_iff, Option.some.injEq] at hv
    obtain ⟨cs, hf, rfl⟩ := hv
    obtain ⟨i, z, Ts⟩ := LK.ty (t := ty) (by rw [hk]; rfl)
    have hkn := LK.fld ty
    simp only [fldOk, hk] at hkn
    obtain ⟨ie, ze, Te⟩ := LK.ty hkn
    obtain ⟨cells', g1, g2⟩ := fill_ok _ ((ps.map fun (i, x) => (i, a.eval x)).toList) _ _ z.cells hl hp Ts.zrel hf
    refine ⟨.agg cells', ?_, by simp only [VRel]; exact ⟨cells'.toList, by simp, g2⟩⟩
    simp only [execOp, ho, Sem.run_bind, Instr.build, Ts.run_zero, Result.andThen_ok, run_underlying (Ts.array hk), Te.run_sizeOf, g1, Sem.run_pure]
  · cases hv

/-- the cells of a new array -/
def RowsArr (C : Cx) (h : List AObj) (e : Nat) (cs : Array Value) (rows : List Row) : Prop := cs.size = rows.length * C.es e ∧ ∀ i, i < rows.length → RowAt C h e cs (i * C.es e) (nth [] rows i)
theorem rowsArr_ext (E : Ext C h C' h') {e : Nat} {cs : Array Value} {rows : List Row} (hr : RowsArr C h e cs rows) : RowsArr C' h' e cs rows := by
  have hes : C'.es e = C.es e := by simp only [Cx.es, E.L]
  exact ⟨by rw [hes]; exact hr.1, fun i hi => by rw [hes]; exact rowAt_ext E (hr.2 i hi)⟩
theorem nth_replicate {α : Type} (d x : α) : ∀ (n i : Nat), i < n → nth d (List.replicate n x) i = x
  | 0, i, hi => by omega
  | n + 1, 0, _ => rfl
  | n + 1, i + 1, hi => by simp only [List.replicate_succ, nth]; exact nth_replicate d x n i (by omega)
theorem rowsArr_zero {e : Nat} {i : TypeInfo} {z : Value} (Te : Ty P (ly C.L e) e i z) (n : Nat) : RowsArr C h e ((Array.range (n * (ly C.L e).cells.length)).map (z.cells[· % z.cells.size]!)) (List.replicate n (zCells (ly C.L e))) := by
  have hz := Te.zrel (C := C) (h := h)
  have hzl := lrel_length hz
  have hzs : z.cells.size = (ly C.L e).cells.length := by simpa [zCells] using hzl
  refine ⟨by simp [Cx.es], fun k hk => ?_⟩
  simp only [List.length_replicate] at hk
  rw [nth_replicate _ _ _ _ hk]
  refine ⟨zs_okRow Te.zs, z.cells.toList, hz, fun j hj => ?_⟩
  simp only [Array.length_toList, hzs] at hj
  have h1 : (k + 1) * (ly C.L e).cells.length ≤ n * (ly C.L e).cells.length := Nat.mul_le_mul_right _ hk
  rw [Nat.succ_mul] at h1
  have h2 : k * C.es e + j < n * (ly C.L e).cells.length := by simp only [Cx.es]; omega
  have h3 : (k * C.es e + j) % z.cells.size = j := by
    rw [hzs]; simp only [Cx.es]; rw [Nat.mul_comm, Nat.mul_add_mod]; exact Nat.mod_eq_of_lt hj
  rw [Array.getElem?_map, Array.getElem?_range, if_pos h2]
  simp only [Option.map_some, h3]
  rw [Array.getElem?_toList, getElem!_pos z.cells j (by omega), Array.getElem?_eq_getElem (by omega)]
theorem rowsArr_set {e i : Nat} {cs : Array Value} {rows : List Row} {r : Row} {us : List Value} (hr : RowsArr C h e cs rows) (hi : i < rows.length) (hok : okRow (ly C.L e).cells r = true) (hu : LRel C h r us) : i * C.es e + us.length ≤ cs.size ∧ RowsArr C h e (splice cs (i * C.es e) us) (upd rows i r) := by
  have hul : us.length = C.es e := by rw [lrel_length hu, okRow_length hok]; rfl
  have hfit : i * C.es e + us.length ≤ cs.size := by rw [hr.1, hul, ← Nat.succ_mul]; exact Nat.mul_le_mul_right _ hi
  refine ⟨hfit, by rw [splice_size hfit, upd_length]; exact hr.1, fun k hk => ?_⟩
  rw [upd_length] at hk
  rw [nth_upd]
  by_cases he : k = i
  · subst he
    rw [if_pos ⟨rfl, hi⟩]
    refine ⟨hok, us, hu, fun j hj => ?_⟩
    rw [splice_get hfit, if_pos (by omega)]; congr 1; omega
  · rw [if_neg (by omega)]
    obtain ⟨r1, vs, r2, r3⟩ := hr.2 k hk
    refine ⟨r1, vs, r2, fun j hj => ?_⟩
    have hvl : vs.length = C.es e := by rw [lrel_length r2, okRow_length r1]; rfl
    rw [← r3 j hj, splice_get hfit, if_neg]
    intro hq
    rcases Nat.lt_or_gt_of_ne he with hlt | hgt
    · have : (k + 1) * C.es e ≤ i * C.es e := Nat.mul_le_mul_right _ hlt
      rw [Nat.succ_mul] at this; omega
    · have : (i + 1) * C.es e ≤ k * C.es e := Nat.mul_le_mul_right _ hgt
      rw [Nat.succ_mul] at this; omega
/-- a slice over a new array -/
theorem step_arr (H : HRel C h) {e cap : Nat} {cs : Array Value} {rows : List Row} {c : Cp} (w' : World) (hnl : c.nl = false) (hcap : rows.length ≤ cap) (hsz : cs.size = cap * C.es e) (hrow : ∀ i, i < rows.length → RowAt C h e cs (i * C.es e) (nth [] rows i))
    (hw : w'.heap = C.w.heap.push (.cells cs e)) (hos : w'.os = C.w.os) (htape : w'.tape = C.w.tape) (hout : w'.output = C.w.output) (fz : Nat) (hfz : fz ≤ rows.length) :
    Step nt C h (C.lay h.length w' C.w.heap.size cap) (h ++ [.arr e rows c 0 fz]) ∧ HRel (C.lay h.length w' C.w.heap.size cap) (h ++ [.arr e rows c 0 fz]) ∧
    ((c.tight = true → cap = rows.length) → VRel (C.lay h.length w' C.w.heap.size cap) (h ++ [.arr e rows c 0 fz]) (.own h.length 0) (.slice (some ⟨C.w.heap.size, 0, none⟩) rows.length cap)) := by
  obtain ⟨hs, hH⟩ := step_lay (nt := nt) H (.arr e rows c 0 fz) (.cells cs e) w' cap hw hos htape hout (fun E => by
    refine ⟨hfz, ?_, fun _ => ⟨cs, by simp [Cx.lay, hw], by simp only [Cx.lay, if_true]; exact hsz, by simpa [Cx.lay] using hcap, fun t x _ hq => by have := H.fix _ _ _ hq; simp [Cx.lay] at this, fun i hi => rowAt_ext E (hrow i hi)⟩⟩
    intro hq; rw [hnl] at hq; cases hq)
  refine ⟨hs, hH, fun ht => ?_⟩
  simp only [VRel, RefOk]
  refine ⟨⟨rfl, rfl⟩, by simp, ?_⟩
  rw [nth_append]
  simp only [Nat.lt_irrefl, if_false, Nat.sub_self, nth]
  refine ⟨Nat.le_refl _, fun _ => ⟨some ⟨C.w.heap.size, 0, none⟩, by simp [Cx.lay], ?_, fun _ => by simp [Cx.lay], fun hq => by simp [Cx.lay, ht hq]⟩⟩
  intro hq; rw [hnl] at hq; cases hq
end
end Go.Ev
/- The engine, part 13: appends, made slices, literals of slices. -/
namespace Go.Ev
open Go

section
variable {P : Program} {C C' : Cx} {h h' : List AObj} {t : List AV} {a : Act} {o : Oper} {nt : Nat}

/-! ### What is appended -/
theorem okRow_oneCell : ∀ {ks : List CK} {r : Row} {us : List Value}, okRow ks r = true → LRel C h r us → ∀ u ∈ us, u.oneCell' = true
  | [], [], us, _, hr, u, hu => by simp only [LRel] at hr; subst hr; simp at hu
  | [], _ :: _, us, hk, _, _, _ => by simp [okRow] at hk
  | _ :: _, [], us, hk, _, _, _ => by simp [okRow] at hk
  | k :: ks, c :: cs, us, hk, hr, u, hu => by
    simp only [okRow, Bool.and_eq_true] at hk
    simp only [LRel] at hr
    obtain ⟨v, vs, rfl, g1, g2⟩ := hr
    rcases List.mem_cons.1 hu with rfl | hu
    · exact (okCell_one hk.1 g1).2.2
    · exact okRow_oneCell hk.2 g2 u hu
/-- Rows that lie one behind the other in a list of cells. -/
def RowsIn (C : Cx) (h : List AObj) (e : Nat) (us : List Value) (rows : List Row) : Prop := us.length = rows.length * C.es e ∧ (∀ u ∈ us, u.oneCell' = true) ∧ ∀ i, i < rows.length → RowAt C h e us.toArray (i * C.es e) (nth [] rows i)
theorem rowsIn_nil {e : Nat} : RowsIn C h e [] [] := ⟨by simp, by simp, fun i hi => by simp at hi⟩
theorem rowsIn_append {e : Nat} {us vs : List Value} {rows rows' : List Row} (hu : RowsIn C h e us rows) (hv : RowsIn C h e vs rows') : RowsIn C h e (us ++ vs) (rows ++ rows') := by
  obtain ⟨a1, a2, a3⟩ := hu
  obtain ⟨b1, b2, b3⟩ := hv
  refine ⟨by rw [List.length_append, List.length_append, a1, b1, Nat.add_mul], fun u hu => ?_, fun i hi => ?_⟩
  · rcases List.mem_append.1 hu with hu | hu
    · exact a2 u hu
    · exact b2 u hu
  · rw [nth_append]
    split
    · rename_i hi'
      obtain ⟨r1, ws, r2, r3⟩ := a3 i hi'
      refine ⟨r1, ws, r2, fun j hj => ?_⟩
      have hwl : ws.length = C.es e := by rw [lrel_length r2, okRow_length r1]; rfl
      have : (i + 1) * C.es e ≤ rows.length * C.es e := Nat.mul_le_mul_right _ hi'
      rw [Nat.succ_mul] at this
      have := r3 j hj
      rw [List.getElem?_toArray] at this ⊢
      rw [List.getElem?_append_left (by omega)]; exact this
    · rename_i hi'
      rw [List.length_append] at hi
      obtain ⟨r1, ws, r2, r3⟩ := b3 (i - rows.length) (by omega)
      refine ⟨r1, ws, r2, fun j hj => ?_⟩
      have := r3 j hj
      rw [List.getElem?_toArray] at this ⊢
      have he : i * C.es e = rows.length * C.es e + (i - rows.length) * C.es e := by rw [← Nat.add_mul]; congr 1; omega
      rw [List.getElem?_append_right (by omega), a1, he, show rows.length * C.es e + (i - rows.length) * C.es e + j - rows.length * C.es e = (i - rows.length) * C.es e + j by omega]
      exact this
theorem rowsIn_one {e : Nat} {r : Row} {vs : List Value} (h1 : okRow (ly C.L e).cells r = true) (h2 : LRel C h r vs) : RowsIn C h e vs [r] := by
  refine ⟨by rw [lrel_length h2, okRow_length h1]; simp [Cx.es], okRow_oneCell h1 h2, fun i hi => ?_⟩
  have : i = 0 := by simpa using hi
  subst this
  exact ⟨h1, vs, h2, fun j _ => by simp⟩
theorem gather {e b : Nat} : ∀ {rows : List Row} {off : Nat}, (∀ i, i < rows.length → okRow (ly C.L e).cells (nth [] rows i) = true ∧ Mem C h b (off + i * C.es e) (nth [] rows i)) →
    ∃ news, RowsIn C h e news rows ∧ ∀ k v, news[k]? = some v → cellAt C.w b (off + k) = some v
  | [], off, _ => ⟨[], rowsIn_nil, by simp⟩
  | r :: rows, off, hr => by
    obtain ⟨h1, vs, h2, h3⟩ := hr 0 (by simp)
    simp only [nth] at h1 h2
    have hvl : vs.length = C.es e := by rw [lrel_length h2, okRow_length h1]; rfl
    obtain ⟨news, g1, g2⟩ := gather (rows := rows) (off := off + C.es e) (fun i hi => by
      have := hr (i + 1) (by simpa using hi)
      simp only [nth] at this
      rwa [show off + (i + 1) * C.es e = off + C.es e + i * C.es e by rw [Nat.succ_mul]; omega] at this)
    refine ⟨vs ++ news, rowsIn_append (rowsIn_one h1 h2) g1, fun k v hk => ?_⟩
    by_cases hlt : k < vs.length
    · rw [List.getElem?_append_left hlt] at hk
      have := h3 k v hk
      simpa using this
    · rw [List.getElem?_append_right (by omega)] at hk
      have := g2 _ _ hk
      rwa [show off + C.es e + (k - vs.length) = off + k by omega] at this
theorem rowsIn_bytes {e : Nat} (he : (ly C.L e).cells = [.int .u8]) : ∀ (s : List UInt8), RowsIn C h e (s.map fun b => .int .u8 (b.toNat : Int)) (byteRows s)
  | [] => rowsIn_nil
  | b :: s => by
    have h1 : RowsIn C h e [.int .u8 (b.toNat : Int)] [[.int .u8 (b.toNat : Int)]] := rowsIn_one (by rw [he]; simp [okRow, okCell]) (by simp only [LRel]; exact ⟨_, [], rfl, by simp only [VRel], rfl⟩)
    exact rowsIn_append h1 (rowsIn_bytes he s)
theorem rowAt_more {e off : Nat} {us : List Value} {zs : Array Value} {r : Row} (hr : RowAt C h e us.toArray off r) : RowAt C h e (us.toArray ++ zs) off r := by
  obtain ⟨r1, vs, r2, r3⟩ := hr
  refine ⟨r1, vs, r2, fun j hj => ?_⟩
  have := r3 j hj
  rw [List.getElem?_eq_getElem hj] at this ⊢
  have hlt := (Array.getElem?_eq_some_iff.1 this).1
  rw [Array.getElem?_append_left hlt]; exact this
/-- A source: its length, its cells. -/
structure Src (P : Program) (C : Cx) (h : List AObj) (e : Nat) (x : Value) (xs : List Row) (news : List Value) : Prop where
  len : ∀ w, (Builtin.lenOf x).run P w = .ok xs.length w
  cells : ∀ w, (∀ b off, cellAt w b off = cellAt C.w b off) → (Builtin.firstCells (C.es e) xs.length x).run P w = .ok news.toArray w
  rows : RowsIn C h e news xs
theorem src_some {e b off n cap : Nat} {xs : List Row} (hn : n = xs.length) (hr : ∀ i, i < xs.length → okRow (ly C.L e).cells (nth [] xs i) = true ∧ Mem C h b (off + i * C.es e) (nth [] xs i)) : ∃ news, Src P C h e (.slice (some ⟨b, off, none⟩) n cap) xs news := by
  obtain ⟨news, g1, g2⟩ := gather hr
  refine ⟨news, fun w => by simp [Builtin.lenOf, hn], fun w hw => ?_, g1⟩
  exact run_firstCells_some w (C.es e) xs.length ⟨b, off, none⟩ n cap news g1.1 (fun j v hj => by
    rw [Addr.add_lit]
    have := g2 j v hj
    rw [← hw] at this; exact this)
theorem src_nil {e : Nat} {ad : Option Addr} {cap : Nat} : ∃ news, Src P C h e (.slice ad 0 cap) [] news := by
  refine ⟨[], fun w => by simp [Builtin.lenOf], fun w hw => ?_, rowsIn_nil⟩
  cases ad with
  | none => simp [Builtin.firstCells]
  | some b => exact run_firstCells_some w (C.es e) 0 b 0 cap [] (by simp) (by simp)
theorem src_ok {e : Nat} {x : AV} {v : Value} {xs : List Row} (LK : LOk P C.L) (H : HRel C h) (hx : VRel C h x v) (hs : srcRows C.L h e x = some xs) : ∃ news, Src P C h e v xs news := by
  have ps : ∀ tg e' c rows, x = .ps tg e' c rows → (Nat.beq e' e || isNilPs x) = true → rows = xs → ∃ news, Src P C h e v xs news := by
    rintro tg e' c rows rfl hc rfl
    by_cases hr : rows = []
    · subst hr
      obtain ⟨ad, cap, rfl, _⟩ := vrel_ps.1 hx
      exact src_nil
    · obtain ⟨ad, cap, rfl, _, _, _, _, h6⟩ := vrel_ps.1 hx
      obtain ⟨b, off, rfl, hrr⟩ := h6 hr
      have he : e' = e := by
        simp only [Bool.or_eq_true] at hc
        rcases hc with hc | hc
        · exact nbeq.1 hc
        · exfalso; apply hr
          revert hc; cases rows with
          | nil => intro; rfl
          | cons => intro hq; revert hq; rcases c with ⟨nl, tt⟩; cases nl <;> simp [isNilPs]
      subst he
      exact src_some rfl (fun i hi => by
        obtain ⟨q1, q2⟩ := rowsRel_nth hrr i hi
        exact ⟨q1, mem_cells q2⟩)
  cases x <;> simp only [srcRows, rowsOf, Option.bind_eq_some_iff, reduceCtorEq, false_and, exists_false, and_false] at hs
  case str s =>
    split at hs
    · rename_i hce
      simp only [Option.some.injEq] at hs
      subst hs
      simp only [VRel] at hx
      subst hx
      have hrows := rowsIn_bytes (C := C) (h := h) hce s
      refine ⟨_, fun w => by simp [Builtin.lenOf, byteRows, ByteArray.size], fun w hw => ?_, hrows⟩
      simp only [Builtin.firstCells, Sem.run_pure, byteRows, List.length_map]
      congr 1
      apply Array.ext'
      have : (ByteArray.mk s.toArray).extract 0 s.length = ⟨s.toArray⟩ := by rw [str_extract]; simp
      rw [this]; simp
    · cases hs
  case ps tg e' c rows =>
    simp only [Option.some.injEq, cond_eq_ite] at hs
    obtain ⟨p, rfl, hs⟩ := hs
    split at hs
    · simp only [Option.some.injEq] at hs
      exact ps _ _ _ _ rfl (by assumption) hs
    · cases hs
  case own oo ver =>
    cases hn : nth .dead h oo with
    | dead => rw [hn] at hs; simp at hs
    | box _ _ => rw [hn] at hs; simp at hs
    | mp _ _ => rw [hn] at hs; simp at hs
    | arr e' rows c w fz =>
      rw [hn] at hs
      obtain ⟨p, hp, hs⟩ := hs
      simp only [cond_eq_ite, nbeq] at hp
      split at hp
      case isFalse => cases hp
      rename_i hv; subst hv
      simp only [Option.some.injEq] at hp
      subst hp
      simp only [cond_eq_ite, isNilPs, Bool.or_false, nbeq] at hs
      split at hs
      case isFalse => cases hs
      rename_i he; subst he
      simp only [Option.some.injEq] at hs
      subst hs
      obtain ⟨hlt, ad, rfl, q2, q3, q4⟩ := own_value hn hx
      by_cases hr : rows = []
      · subst hr; exact src_nil
      · have hnl := own_nl H hlt hn hr
        have hob := H.obj oo hlt
        rw [hn] at hob
        rw [q3 hnl]
        exact src_some rfl (fun i hi => by
          rw [Nat.zero_add]
          exact mem_arr hob hnl hi)
  case sl oo ver off len =>
    cases hn : nth .dead h oo with
    | dead => rw [hn] at hs; simp at hs
    | box _ _ => rw [hn] at hs; simp at hs
    | mp _ _ => rw [hn] at hs; simp at hs
    | arr e' rows c w fz =>
      rw [hn] at hs
      obtain ⟨p, hp, hs⟩ := hs
      simp only [cond_eq_ite, nbeq] at hp
      split at hp
      case isFalse => cases hp
      rename_i hv; subst hv
      simp only [Option.some.injEq] at hp
      subst hp
      simp only [cond_eq_ite, isNilPs, Bool.or_false, nbeq] at hs
      split at hs
      case isFalse => cases hs
      rename_i he; subst he
      simp only [Option.some.injEq] at hs
      subst hs
      obtain ⟨hlt, ad, rfl, q2, q3, q4, q5⟩ := sl_value hn hx
      have hlen : ((rows.drop off).take len).length = len := by simp; omega
      by_cases hr : len = 0
      · subst hr; simp only [List.take_zero]; exact src_nil
      · have hob := H.obj oo hlt
        rw [hn] at hob
        rw [q5 (by omega)]
        exact src_some hlen.symm (fun i hi => by
          rw [hlen] at hi
          have hnth : nth [] ((rows.drop off).take len) i = nth [] rows (off + i) := by
            rw [nth_getElem?, nth_getElem?, List.getElem?_take_of_lt hi, List.getElem?_drop]
          rw [hnth, ← Nat.add_mul]
          exact mem_arr hob q4 (by omega))
end
end Go.Ev
/- The engine, part 14: appends. -/
namespace Go.Ev
open Go

section
variable {P : Program} {C C' : Cx} {h h' : List AObj} {t : List AV} {a : Act} {o : Oper} {nt : Nat}

def NoInt (P : Program) (t : Nat) : Prop := P.underlying t = some .string ∨ ∃ e, P.underlying t = some (.slice e)
theorem noInt_of {ty : Nat} (LK : LOk P C.L) (hn : noInt (ly C.L ty).k = true) : NoInt P ty := by
  have hk : (ly C.L ty).k.known = true := by revert hn; cases (ly C.L ty).k <;> simp [noInt, K.known]
  obtain ⟨i, z, Tt⟩ := LK.ty hk
  cases hq : (ly C.L ty).k <;> rw [hq] at hn <;> simp [noInt] at hn
  · exact .inl (Tt.str hq)
  · exact .inr ⟨_, Tt.slice hq⟩
theorem run_append_room {t0 t1 ty e n cap : Nat} {i : TypeInfo} {z : Value} {x : Value} {xs : List Row} {news : List Value} (h0 : P.underlying t0 = some (.slice e)) (h1 : NoInt P t1) (Te : Ty P (ly C.L e) e i z) (S : Src P C h e x xs news)
    {g : Nat} {cur : Array Value} (hg : C.w.heap[g]? = some (.cells cur e (0, 0))) (hroom : n + xs.length ≤ cap) (hfit : n * C.es e + news.length ≤ cur.size) :
    (Builtin.append_ #[t0, t1] ty #[.slice (some ⟨g, 0, none⟩) n cap, x]).run P C.w = .ok (.slice (some ⟨g, 0, none⟩) (n + xs.length) cap) (C.w.setRow g (splice cur (n * C.es e) news)) := by
  have hst := run_storeCells_at P g (n * C.es e) e news 0 cur C.w hg (by simpa using hfit) S.rows.2.1
  have hf := S.cells C.w (fun _ _ => rfl)
  have hlen := S.len C.w
  have hes : C.es e = (ly C.L e).cells.length := rfl
  simp only [Nat.add_zero] at hst
  rcases h1 with h1 | ⟨e1, h1⟩ <;> simp [Builtin.append_, run_underlying h0, run_underlying h1, Te.run_sizeOf, hlen, hroom, ← hes, hf, Addr.add_lit, hst, splice]
theorem run_append_none {t0 t1 ty e n cap : Nat} {i : TypeInfo} {z : Value} {x : Value} {news : List Value} (h0 : P.underlying t0 = some (.slice e)) (h1 : NoInt P t1) (Te : Ty P (ly C.L e) e i z) (S : Src P C h e x [] news)
    (ad : Option Addr) (hroom : n ≤ cap) : (Builtin.append_ #[t0, t1] ty #[.slice ad n cap, x]).run P C.w = .ok (.slice ad n cap) C.w := by
  have hf := S.cells C.w (fun _ _ => rfl)
  have hlen := S.len C.w
  have hn : news = [] := List.eq_nil_of_length_eq_zero (by simpa using S.rows.1)
  subst hn
  have hes : C.es e = (ly C.L e).cells.length := rfl
  simp only [List.length_nil] at hf hlen
  cases ad <;> rcases h1 with h1 | ⟨e1, h1⟩ <;> simp [Builtin.append_, run_underlying h0, run_underlying h1, Te.run_sizeOf, hlen, hroom, ← hes, hf, storeCells]
theorem run_append_grow {t0 t1 ty e n cap : Nat} {i : TypeInfo} {z : Value} {x : Value} {xs : List Row} {news olds : List Value} (h0 : P.underlying t0 = some (.slice e)) (h1 : NoInt P t1) (Te : Ty P (ly C.L e) e i z) (S : Src P C h e x xs news)
    (ad : Option Addr) (hold : olds.length = n * C.es e) (hads : ad = none → n = 0) (hcell : ∀ b, ad = some b → ∀ j v, olds[j]? = some v → C.w.cell? (b.add j) = some v)
    (hg : cap < n + xs.length) (hb : 1 ≤ (ly C.L e).bytes) (hfit : (n + xs.length) * (ly C.L e).bytes ≤ maxB) :
    (Builtin.append_ #[t0, t1] ty #[.slice ad n cap, x]).run P C.w = .ok (.slice (some ⟨C.w.heap.size, 0, none⟩) (n + xs.length) (grownCap C.w (n + xs.length) cap e))
      (C.w.drew.alloc (.cells ((olds ++ news).toArray ++ Builtin.zeroCells z.cells (grownCap C.w (n + xs.length) cap e - (n + xs.length))) e)) := by
  have hf := S.cells C.w.drew (fun _ _ => rfl)
  have hlen := S.len C.w
  have hes : C.es e = (ly C.L e).cells.length := rfl
  have hroom : ¬ (n + xs.length ≤ cap) := by omega
  have hby := Te.bytes
  have hneed : n + xs.length ≤ maxB := Nat.le_trans (by have := Nat.mul_le_mul_left (n + xs.length) hb; omega) hfit
  have h63 : ¬ (9223372036854775807 < ((n : Int) + (xs.length : Int))) := by simp only [maxB] at hneed; omega
  have h48 : ¬ (281474976710656 < Builtin.nextslicecap (n + xs.length) cap * (ly C.L e).bytes) := Nat.not_lt.2 (growslice_fits hg (by simp only [maxB] at hfit; omega))
  have hfo : (Builtin.firstCells (C.es e) n (.slice ad n cap)).run P C.w.drew = .ok olds.toArray C.w.drew := by
    cases ad with
    | none =>
      have : n = 0 := hads rfl
      subst this
      have : olds = [] := List.eq_nil_of_length_eq_zero (by simpa using hold)
      subst this
      simp [Builtin.firstCells]
    | some b => exact run_firstCells_some _ _ _ _ _ _ _ hold (by simpa using hcell b rfl)
  rw [show (olds ++ news).toArray = olds.toArray ++ news.toArray by simp, Array.append_assoc]
  rcases h1 with h1 | ⟨e1, h1⟩ <;> simp [Builtin.append_, run_underlying h0, run_underlying h1, Te.run_sizeOf, Te.run_zero, typeInfo, Te.info, hby, hlen, hroom, ← hes, hf, hfo, h63, h48, Question.forced, newRow, grownCap]
theorem zeroCells_size (z : Array Value) (n : Nat) : (Builtin.zeroCells z n).size = n * z.size := by simp [Builtin.zeroCells]
/-- an object comes to lie in a new block -/
theorem step_move (H : HRel C h) {k e cap : Nat} {cs : Array Value} {rows rows' : List Row} {c c' : Cp} {v fz fz' : Nat} (w' : World) (hk : k < h.length) (hn : nth .dead h k = .arr e rows c v fz) (hnl : c'.nl = false) (hcap : rows'.length ≤ cap) (hsz : cs.size = cap * C.es e) (hrow : ∀ i, i < rows'.length → RowAt C h e cs (i * C.es e) (nth [] rows' i))
    (hw : w'.heap = C.w.heap.push (.cells cs e)) (hos : w'.os = C.w.os) (htape : w'.tape = C.w.tape) (hout : w'.output = C.w.output) (hfz : fz' ≤ rows'.length) (ht : c'.tight = true → cap = rows'.length) :
    Step nt C h (C.lay k w' C.w.heap.size cap) (upd h k (.arr e rows' c' (v + 1) fz')) ∧ HRel (C.lay k w' C.w.heap.size cap) (upd h k (.arr e rows' c' (v + 1) fz')) ∧
    VRel (C.lay k w' C.w.heap.size cap) (upd h k (.arr e rows' c' (v + 1) fz')) (.own k (v + 1)) (.slice (some ⟨C.w.heap.size, 0, none⟩) rows'.length cap) := by
  have hnn : nth .dead (upd h k (.arr e rows' c' (v + 1) fz')) k = .arr e rows' c' (v + 1) fz' := by rw [nth_upd, if_pos ⟨rfl, hk⟩]
  have hsz' : w'.heap.size = C.w.heap.size + 1 := by rw [hw]; simp
  have hold : ∀ b, b < C.w.heap.size → w'.heap[b]? = C.w.heap[b]? := fun b hb => by rw [hw, Array.getElem?_push_lt hb]; simp [hb]
  obtain ⟨hs, hH⟩ := step_one (C' := C.lay k w' C.w.heap.size cap) (h' := upd h k (.arr e rows' c' (v + 1) fz')) (nt := nt) H k rfl (by rw [upd_length]; exact Nat.le_refl _) (fun oo h1 h2 => by rw [upd_length] at h2; omega) (fun oo hq => by rw [nth_upd, if_neg (by omega)])
    (fun oo hq => by simp [Cx.lay, hq]) (fun oo hq => by simp [Cx.lay, hq]) (fun t b y hq => ⟨hq, by have := H.fix t b y hq; simp only [cellAt, World.cell?, Cx.lay, hold b this]⟩) hos htape hout (by simp [Cx.lay, hsz'])
    (fun b hb _ => hold b hb) (fun _ => by rw [hnn, hn]; simp only [objOk]; exact ⟨Nat.le_succ _, fun hq => absurd hq (Nat.ne_of_lt (Nat.lt_succ_self _))⟩) (fun _ _ => .inr (by simp [Cx.lay])) (fun t b y hq => .inl hq) (fun t b y hq => by simp [Cx.lay, hsz']; have := H.fix t b y hq; omega) (fun E _ => by
      rw [hnn]
      refine ⟨hfz, ?_, fun _ => ⟨cs, by simp [Cx.lay, hw], by simp only [Cx.lay, if_true]; exact hsz, by simpa [Cx.lay] using hcap, fun t x _ hq => by have := H.fix _ _ _ hq; simp [Cx.lay] at this, fun i hi => rowAt_ext E (hrow i hi)⟩⟩
      intro hq; rw [hnl] at hq; cases hq)
  refine ⟨hs, hH, ?_⟩
  simp only [VRel, RefOk]
  refine ⟨⟨rfl, rfl⟩, by rw [upd_length]; exact hk, ?_⟩
  rw [hnn]
  refine ⟨Nat.le_refl _, fun _ => ⟨some ⟨C.w.heap.size, 0, none⟩, by simp [Cx.lay], ?_, fun _ => by simp [Cx.lay], fun hq => by simp [Cx.lay, ht hq]⟩⟩
  intro hq; rw [hnl] at hq; cases hq
theorem own_any {k ver : Nat} {e : Nat} {rows : List Row} {c : Cp} {w' fz : Nat} (hk : k < h.length) (hn : nth .dead h k = .arr e rows c ver fz) {v : Value} (h1 : OneV v) (hv : OwnOk C k c rows.length v) : VRel C h (.own k ver) v := by
  simp only [VRel, RefOk]
  refine ⟨h1, hk, ?_⟩
  rw [hn]; exact ⟨Nat.le_refl _, fun _ => hv⟩
/-- a nil slice becomes an object -/
theorem step_nil (H : HRel C h) {e : Nat} (tt : Bool) (fz : Nat) (hfz : fz ≤ 0) :
    Step nt C h (C.lay h.length C.w 0 0) (h ++ [.arr e [] ⟨true, tt⟩ 0 fz]) ∧ HRel (C.lay h.length C.w 0 0) (h ++ [.arr e [] ⟨true, tt⟩ 0 fz]) ∧ VRel (C.lay h.length C.w 0 0) (h ++ [.arr e [] ⟨true, tt⟩ 0 fz]) (.own h.length 0) (.slice none 0 0) := by
  have hnn : nth .dead (h ++ [AObj.arr e [] ⟨true, tt⟩ 0 fz]) h.length = .arr e [] ⟨true, tt⟩ 0 fz := by rw [nth_append]; simp [nth]
  obtain ⟨hs, hH⟩ := step_one (C' := C.lay h.length C.w 0 0) (h' := h ++ [.arr e [] ⟨true, tt⟩ 0 fz]) (nt := nt) H h.length rfl (by simp) (fun oo h1 h2 => by simp at h2; omega) (fun oo hk => by
      rw [nth_append]; split
      · rfl
      · rename_i hlt; rw [nth_ge _ h _ (by omega), nth_ge _ _ _ (by simp; omega)])
    (fun oo hq => by simp [Cx.lay, hq]) (fun oo hq => by simp [Cx.lay, hq]) (fun t b y hq => ⟨hq, rfl⟩) rfl rfl rfl (Nat.le_refl _) (fun b hb _ => rfl) (fun hq => absurd hq (by simp)) (fun _ hq => by rw [hnn] at hq; simp [live] at hq) (fun t b y hq => .inl hq) (fun t b y hq => H.fix t b y hq)
    (fun E _ => by rw [hnn]; exact ⟨by simpa using hfz, fun _ => ⟨rfl, by simp [Cx.lay]⟩, fun hq => by simp at hq⟩)
  refine ⟨hs, hH, own_any (w' := 0) (by simp) hnn ⟨rfl, rfl⟩ ⟨none, by simp [Cx.lay], fun _ => rfl, fun hq => by simp at hq, fun _ => by simp [Cx.lay]⟩⟩
end
end Go.Ev
/- The engine, part 15: append. -/
namespace Go.Ev
open Go

section
variable {P : Program} {C C' : Cx} {h h' : List AObj} {t : List AV} {a : Act} {o : Oper} {nt : Nat}

theorem op_append_fin {c : Call} {t0 t1 : Nat} {x y : Operand} {v : AV} {r : Value} (ho : o.op = .call c) (hc : c.callee = .builtin .append) (h0 : c.argTypes.toList = [t0, t1]) (h1 : c.args.toList = [x, y])
    (hr : (Builtin.append_ #[t0, t1] o.type #[a.eval x, a.eval y]).run P C.w = .ok r C'.w) (hs : Step nt C h C' h') (H : HRel C' h') (hv : VRel C' h' v r) : OpOk P nt C h a o v h' := by
  have ha : c.args.map a.eval = #[a.eval x, a.eval y] := by apply Array.ext'; simp [h1]
  have ht : c.argTypes = #[t0, t1] := by apply Array.ext'; simp [h0]
  exact op_value (x := r) (by simp [execOp, ho, resolve, hc, ha, ht, invoke, builtin, hr]) hs H hv
theorem empty_iff {α : Type} {xs : List α} : empty xs = true ↔ xs = [] := by cases xs <;> simp [empty]
theorem empty_false {α : Type} {xs : List α} : empty xs = false ↔ xs ≠ [] := by cases xs <;> simp [empty]
theorem grown_ok {e cap : Nat} {i : TypeInfo} {z : Value} {us : List Value} {rows : List Row} (Te : Ty P (ly C.L e) e i z) (hu : RowsIn C h e us rows) (hc : rows.length ≤ cap) :
    (us.toArray ++ Builtin.zeroCells z.cells (cap - rows.length)).size = cap * C.es e ∧ ∀ k, k < rows.length → RowAt C h e (us.toArray ++ Builtin.zeroCells z.cells (cap - rows.length)) (k * C.es e) (nth [] rows k) := by
  have hzl := lrel_length (Te.zrel (C := C) (h := h))
  have hzs : z.cells.size = C.es e := by simpa [zCells, Cx.es] using hzl
  refine ⟨?_, fun k hk => rowAt_more (hu.2.2 k hk)⟩
  rw [Array.size_append, zeroCells_size, hzs, List.size_toArray, hu.1, ← Nat.add_mul]
  congr 1; omega
theorem op_append {c : Call} {t0 t1 : Nat} {x y : Operand} {v : AV} (LK : LOk P C.L) (H : HRel C h) (T : TRel C h t a) (ho : o.op = .call c) (hc : c.callee = .builtin .append) (h0 : c.argTypes.toList = [t0, t1]) (h1 : c.args.toList = [x, y])
    (hv : appendA C.L h t0 t1 (opd t x) (opd t y) = some (true, v, h')) : OpOk P nt C h a o v h' := by
  have hx := vrel_opd T x
  have hy := vrel_opd T y
  have fin := fun (C' : Cx) (r : Value) (g1 : (Builtin.append_ #[t0, t1] o.type #[a.eval x, a.eval y]).run P C.w = .ok r C'.w) (g2 : Step nt C h C' h') (g3 : HRel C' h') (g4 : VRel C' h' v r) => op_append_fin (P := P) (C := C) (C' := C') (h := h) (h' := h') ho hc h0 h1 g1 g2 g3 g4
  revert hx hy hv fin
  generalize opd t x = ax
  generalize opd t y = ay
  generalize a.eval x = vx
  generalize a.eval y = vy
  intro hv hx hy fin
  unfold appendA at hv
  split at hv
  case h_2 => cases hv
  rename_i e hk
  simp only [cond_eq_ite] at hv
  split at hv
  case isFalse => cases hv
  rename_i hcond
  simp only [Bool.and_eq_true, nble] at hcond
  obtain ⟨⟨hni, hby⟩, hkn⟩ := hcond
  obtain ⟨i0, z0, T0⟩ := LK.ty (t := t0) (by rw [hk]; rfl)
  have hu0 := T0.slice hk
  have hni := noInt_of LK hni
  obtain ⟨ie, ze, Te⟩ := LK.ty hkn
  simp only [Option.bind_eq_some_iff] at hv
  obtain ⟨xs, hxs, hv⟩ := hv
  obtain ⟨news, S⟩ := src_ok LK H hy hxs
  cases ax <;> simp only [reduceCtorEq] at hv
  case ps tg e' cp rows =>
    split at hv
    case isFalse => cases hv
    rename_i he
    obtain ⟨ad, cap, rfl, hle, hn1, hn2, ht, hrr⟩ := vrel_ps.1 hx
    split at hv
    · rename_i hnl
      obtain ⟨rfl, rfl⟩ := hn1 hnl
      have hr0 : rows = [] := List.eq_nil_of_length_eq_zero (by omega)
      subst hr0
      simp only [Option.some.injEq, Prod.mk.injEq, nble, List.length_nil, Nat.zero_add] at hv
      obtain ⟨hb, rfl, rfl⟩ := hv
      by_cases hxe : xs = []
      · subst hxe
        obtain ⟨s1, s2, s3⟩ := step_nil (nt := nt) (e := e) H true 0 (Nat.le_refl _)
        exact fin (C.lay h.length C.w 0 0) _ (run_append_none hu0 hni Te S none (Nat.le_refl _)) s1 s2 s3
      · have hlen : 0 < xs.length := List.length_pos_iff.2 hxe
        have hr := run_append_grow (ty := o.type) (olds := []) (n := 0) (cap := 0) hu0 hni Te S none (by simp) (fun _ => rfl) (fun b hb => by cases hb) (by omega) hby (by simpa using hb)
        simp only [Nat.zero_add, List.nil_append] at hr
        obtain ⟨q1, q2⟩ := grown_ok Te S.rows (grownCap_ge C.w xs.length 0 e)
        have hem : empty xs = false := empty_false.2 hxe
        rw [hem] at fin
        rw [hem]
        obtain ⟨s1, s2, s3⟩ := step_arr (nt := nt) (e := e) (rows := xs) (c := ⟨false, false⟩) H (C.w.drew.alloc (.cells (news.toArray ++ Builtin.zeroCells ze.cells (grownCap C.w xs.length 0 e - xs.length)) e)) rfl (grownCap_ge C.w xs.length 0 e) q1 q2 rfl rfl rfl rfl 0 (Nat.zero_le _)
        exact fin _ _ hr s1 s2 (s3 (fun hq => by cases hq))
    · rename_i hnl
      split at hv
      · rename_i hem
        have hxe := empty_iff.1 hem
        subst hxe
        simp only [Option.some.injEq, Prod.mk.injEq, true_and] at hv
        obtain ⟨rfl, rfl⟩ := hv
        exact fin C _ (run_append_none hu0 hni Te S ad hle) (Step.refl nt C h) H hx
      · rename_i hem
        split at hv
        case isFalse => cases hv
        rename_i htt
        obtain rfl := ht htt
        simp only [Option.some.injEq, Prod.mk.injEq, nble] at hv
        obtain ⟨hb, rfl, rfl⟩ := hv
        have hxe : xs ≠ [] := fun hq => hem (empty_iff.2 hq)
        have hlen : 0 < xs.length := List.length_pos_iff.2 hxe
        have hold : ∃ olds, RowsIn C h e olds rows ∧ ∀ b, ad = some b → ∀ j v, olds[j]? = some v → C.w.cell? (b.add j) = some v := by
          by_cases hr : rows = []
          · subst hr; exact ⟨[], rowsIn_nil, fun b hb j v hq => by simp at hq⟩
          · obtain ⟨b, off, rfl, hrr2⟩ := hrr hr
            have hee : e' = e := by
              simp only [Bool.or_eq_true] at he
              rcases he with he | he
              · exact (nbeq.1 he).symm
              · exfalso; apply hr
                revert he; cases rows with
                | nil => intro; rfl
                | cons => intro hq; revert hq; rcases cp with ⟨nl, tt⟩; cases nl <;> simp [isNilPs]
            subst hee
            obtain ⟨olds, g1, g2⟩ := gather (C := C) (h := h) (e := e') (b := b) (rows := rows) (off := off) (fun i hi => by
              obtain ⟨q1, q2⟩ := rowsRel_nth hrr2 i hi
              exact ⟨q1, mem_cells q2⟩)
            refine ⟨olds, g1, fun b' hb' j v hq => ?_⟩
            simp only [Option.some.injEq] at hb'
            subst hb'
            rw [Addr.add_lit]; exact g2 j v hq
        obtain ⟨olds, ho1, ho2⟩ := hold
        have hr := run_append_grow (ty := o.type) (olds := olds) (n := rows.length) (cap := rows.length) hu0 hni Te S ad ho1.1 (fun hq => by subst hq; have := hn2 (by simpa using hnl); simp at this) ho2 (by omega) hby hb
        have happ := rowsIn_append ho1 S.rows
        obtain ⟨q1, q2⟩ := grown_ok (cap := grownCap C.w (rows.length + xs.length) rows.length e) Te happ (by rw [List.length_append]; exact grownCap_ge _ _ _ _)
        rw [List.length_append] at q1 q2
        obtain ⟨s1, s2, s3⟩ := step_arr (nt := nt) (e := e) (rows := rows ++ xs) (c := ⟨false, false⟩) H (C.w.drew.alloc (.cells ((olds ++ news).toArray ++ Builtin.zeroCells ze.cells (grownCap C.w (rows.length + xs.length) rows.length e - (rows.length + xs.length))) e)) rfl (by rw [List.length_append]; exact grownCap_ge C.w (rows.length + xs.length) rows.length e) q1 (by rw [List.length_append]; exact q2) rfl rfl rfl rfl 0 (Nat.zero_le _)
        have s3 := s3 (fun hq => by cases hq)
        rw [List.length_append] at s3
        exact fin _ _ hr s1 s2 s3
  case own oo ver =>
    cases hn : nth .dead h oo with
    | dead => rw [hn] at hv; cases hv
    | box _ _ => rw [hn] at hv; cases hv
    | mp _ _ => rw [hn] at hv; cases hv
    | arr e' rows cp w fz =>
      rw [hn] at hv
      simp only [Bool.and_eq_true, nbeq] at hv
      split at hv
      case isFalse => cases hv
      rename_i hcc
      obtain ⟨rfl, rfl⟩ := hcc
      simp only [Option.some.injEq, Prod.mk.injEq, nble] at hv
      obtain ⟨hb, rfl, rfl⟩ := hv
      obtain ⟨hlt, ad, rfl, hn1, hn2, htt⟩ := own_value hn hx
      have hob := H.obj oo hlt
      rw [hn] at hob
      obtain ⟨b1, b2, b3⟩ := hob
      have hnn : ∀ x', nth .dead (upd h oo x') oo = x' := fun x' => by rw [nth_upd, if_pos ⟨rfl, hlt⟩]
      by_cases hnl : cp.nl = true
      · obtain ⟨rfl, hkap⟩ := b2 hnl
        obtain rfl := hn1 hnl
        rw [hkap] at fin
        simp only [List.length_nil, Nat.zero_add] at hb
        by_cases hxe : xs = []
        · subst hxe
          have hr := run_append_none (C := C) (h := h) (ty := o.type) (n := 0) (cap := 0) hu0 hni Te S none (Nat.le_refl _)
          obtain ⟨hs, hH⟩ := step_one (C' := C) (h' := upd h oo (.arr e ([] ++ []) ⟨cp.nl && empty ([] : List Row), false⟩ (ver + 1) fz)) (nt := nt) H oo rfl (by rw [upd_length]; exact Nat.le_refl _) (fun oo' h1 h2 => by rw [upd_length] at h2; omega) (fun oo' hq => by rw [nth_upd, if_neg (by omega)]) (fun _ _ => rfl) (fun _ _ => rfl) (fun _ _ _ hq => ⟨hq, rfl⟩) rfl rfl rfl (Nat.le_refl _) (fun _ _ _ => rfl)
            (fun _ => by rw [hnn, hn]; simp only [objOk]; exact ⟨Nat.le_succ _, fun hq => absurd hq (Nat.ne_of_lt (Nat.lt_succ_self _))⟩) (fun _ hq => by rw [hnn] at hq; simp [live, hnl, empty] at hq) (fun _ _ _ hq => .inl hq) H.fix (fun E _ => by
              rw [hnn]; exact ⟨by simpa using b1, fun _ => ⟨rfl, hkap⟩, fun hq => by simp [hnl, empty] at hq⟩)
          exact fin C _ hr hs hH (own_any (w' := 0) (by rw [upd_length]; exact hlt) (hnn _) ⟨rfl, rfl⟩ ⟨none, by simp [hkap], fun _ => rfl, fun hq => by simp [hnl, empty] at hq, fun hq => by simp at hq⟩)
        · have hlen : 0 < xs.length := List.length_pos_iff.2 hxe
          have hr := run_append_grow (ty := o.type) (olds := []) (n := 0) (cap := 0) hu0 hni Te S none (by simp) (fun _ => rfl) (fun b hb => by cases hb) (by omega) hby (by simpa using hb)
          simp only [Nat.zero_add, List.nil_append] at hr fin
          obtain ⟨q1, q2⟩ := grown_ok Te S.rows (grownCap_ge C.w xs.length 0 e)
          have hem : empty xs = false := empty_false.2 hxe
          obtain ⟨s1, s2, s3⟩ := step_move (nt := nt) (e := e) (rows := []) (rows' := xs) (c' := ⟨cp.nl && empty xs, false⟩) (fz' := fz) H (C.w.drew.alloc (.cells (news.toArray ++ Builtin.zeroCells ze.cells (grownCap C.w xs.length 0 e - xs.length)) e)) hlt hn (by simp [hem]) (grownCap_ge C.w xs.length 0 e) q1 q2 rfl rfl rfl rfl (Nat.le_trans b1 (Nat.zero_le _)) (fun hq => by cases hq)
          exact fin _ _ hr s1 s2 s3
      · have hnl : cp.nl = false := by simpa using hnl
        obtain rfl := hn2 hnl
        obtain ⟨cs, g1, g2, g3, g4, g5⟩ := b3 hnl
        have hob : HObj C h oo (.arr e rows cp ver fz) := ⟨b1, b2, b3⟩
        by_cases hroom : rows.length + xs.length ≤ C.kap oo
        · have hfit : rows.length * C.es e + news.length ≤ cs.size := by rw [g2, S.rows.1, ← Nat.add_mul]; exact Nat.mul_le_mul_right _ hroom
          have hr := run_append_room (ty := o.type) hu0 hni Te S g1 hroom hfit
          obtain ⟨hs, hH⟩ := step_write (nt := nt) (cur' := splice cs (rows.length * C.es e) news) H hlt (by rw [hn]; simp [live, hnl]) g1 (.arr e (rows ++ xs) ⟨cp.nl && empty xs, false⟩ (ver + 1) fz)
            (by rw [hn]; simp only [objOk]; exact ⟨Nat.le_succ _, fun hq => absurd hq (Nat.ne_of_lt (Nat.lt_succ_self _))⟩) (fun t x hq => by
              rw [splice_get hfit, if_neg]
              intro hr'
              have : fz * C.es e ≤ rows.length * C.es e := Nat.mul_le_mul_right _ b1
              exact g4 t x (by omega) hq) (fun E => by
              refine ⟨by rw [List.length_append]; omega, ?_, fun _ => ⟨splice cs (rows.length * C.es e) news, by simp only [Cx.wr]; exact setRow_heap _ _ _ _ _ _ g1, by rw [splice_size hfit]; exact g2, by rw [List.length_append]; exact hroom, fun t x hx' hq => g4 t x hx' hq, fun i hi => ?_⟩⟩
              · intro hq; simp [hnl] at hq
              apply rowAt_ext E
              rw [nth_append]
              split
              · rename_i hi'
                obtain ⟨r1, vs, r2, r3⟩ := g5 i hi'
                refine ⟨r1, vs, r2, fun j hj => ?_⟩
                rw [← r3 j hj]
                have hvl : vs.length = C.es e := by rw [lrel_length r2, okRow_length r1]; rfl
                have : (i + 1) * C.es e ≤ rows.length * C.es e := Nat.mul_le_mul_right _ hi'
                rw [Nat.succ_mul] at this
                show (splice cs (rows.length * C.es e) news)[i * C.es e + j]? = _
                rw [splice_get hfit, if_neg (by omega)]
              · rename_i hi'
                rw [List.length_append] at hi
                obtain ⟨r1, vs, r2, r3⟩ := S.rows.2.2 (i - rows.length) (by omega)
                refine ⟨r1, vs, r2, fun j hj => ?_⟩
                have hvl : vs.length = C.es e := by rw [lrel_length r2, okRow_length r1]; rfl
                have h3 := r3 j hj
                rw [List.getElem?_toArray] at h3
                have he : i * C.es e = rows.length * C.es e + (i - rows.length) * C.es e := by rw [← Nat.add_mul]; congr 1; omega
                have hb' : (i - rows.length + 1) * C.es e ≤ xs.length * C.es e := Nat.mul_le_mul_right _ (by omega)
                rw [Nat.succ_mul] at hb'
                have hnl' := S.rows.1
                show (splice cs (rows.length * C.es e) news)[i * C.es e + j]? = _
                rw [splice_get hfit, if_pos (by omega), ← h3]
                congr 1; omega)
          exact fin _ _ hr hs hH (own_any (w' := 0) (by rw [upd_length]; exact hlt) (hnn _) ⟨rfl, rfl⟩ ⟨_, by rw [List.length_append]; rfl, fun hq => by simp [hnl] at hq, fun _ => rfl, fun hq => by cases hq⟩)
        · have hroom : C.kap oo < rows.length + xs.length := by omega
          obtain ⟨olds, ho1, ho2⟩ := gather (C := C) (h := h) (e := e) (b := C.mu oo) (rows := rows) (off := 0) (fun i hi => by
            rw [Nat.zero_add]; exact mem_arr hob hnl hi)
          have hr := run_append_grow (ty := o.type) (olds := olds) (n := rows.length) (cap := C.kap oo) hu0 hni Te S (some ⟨C.mu oo, 0, none⟩) ho1.1 (fun hq => by cases hq) (fun b hb j v hq => by
            simp only [Option.some.injEq] at hb
            subst hb
            rw [Addr.add_lit]; exact ho2 j v hq) hroom hby hb
          have happ := rowsIn_append ho1 S.rows
          obtain ⟨q1, q2⟩ := grown_ok (cap := grownCap C.w (rows.length + xs.length) (C.kap oo) e) Te happ (by rw [List.length_append]; exact grownCap_ge _ _ _ _)
          rw [List.length_append] at q1 q2
          obtain ⟨s1, s2, s3⟩ := step_move (nt := nt) (e := e) (rows := rows) (rows' := rows ++ xs) (c' := ⟨cp.nl && empty xs, false⟩) (fz' := fz) H (C.w.drew.alloc (.cells ((olds ++ news).toArray ++ Builtin.zeroCells ze.cells (grownCap C.w (rows.length + xs.length) (C.kap oo) e - (rows.length + xs.length))) e)) hlt hn (by simp [hnl]) (by rw [List.length_append]; exact grownCap_ge C.w (rows.length + xs.length) (C.kap oo) e) q1 (by rw [List.length_append]; exact q2) rfl rfl rfl rfl (by rw [List.length_append]; omega) (fun hq => by cases hq)
          rw [List.length_append] at s3
          exact fin _ _ hr s1 s2 s3
end
end Go.Ev
/- The engine, part 16: literals of slices, made slices, maps, conversions. -/
namespace Go.Ev
open Go

section
variable {P : Program} {C C' : Cx} {h h' : List AObj} {t : List AV} {a : Act} {o : Oper} {nt : Nat}

theorem toCells_pre {v : AV} {u : Value} (hv : VRel C h v u) : ∃ us, LRel C h v.toCells us ∧ ((us = u.cells.toList) ∨ (us = [u] ∧ v.toCells = [v])) := by
  have single : v.toCells = [v] → ∃ us, LRel C h v.toCells us ∧ ((us = u.cells.toList) ∨ (us = [u] ∧ v.toCells = [v])) := fun he => by
    rw [he]; exact ⟨[u], by simp only [LRel]; exact ⟨u, [], rfl, hv, rfl⟩, .inr ⟨rfl, rfl⟩⟩
  cases v <;> (try exact single rfl)
  case agg cs =>
    simp only [VRel] at hv
    obtain ⟨vs, rfl, hr⟩ := hv
    exact ⟨vs, hr, .inl (by simp [Value.cells])⟩
theorem frzL_length : ∀ {cs cs' : List AV} {h h' : List AObj}, frzL nt h cs = some (cs', h') → cs'.length = cs.length
  | [], cs', h, h', hf => by simp only [frzL, Option.some.injEq, Prod.mk.injEq] at hf; rw [← hf.1]
  | c :: cs, cs', h, h', hf => by
    simp only [frzL, Option.bind_eq_some_iff, Option.some.injEq] at hf
    obtain ⟨p, hp, q, hq, he⟩ := hf
    simp only [Prod.mk.injEq] at he
    rw [← he.1]
    simp [frzL_length hq]
/-- a part of a literal: frozen, as a row -/
theorem part_row {ks : List CK} {v : AV} {u : Value} {r : Row} {h1 : List AObj} (H : HRel C h) (hv : VRel C h v u) (hf : frzL nt h v.toCells = some (r, h1)) (hr : okRow ks r = true) :
    ∃ C1, C1.w = C.w ∧ Step nt C h C1 h1 ∧ HRel C1 h1 ∧ LRel C1 h1 r u.cells.toList := by
  obtain ⟨us, g1, g2⟩ := toCells_pre hv
  obtain ⟨C1, e1, e2, e3, e4⟩ := frzL_ok H g1 hf
  refine ⟨C1, e1, e2, e3, ?_⟩
  rcases g2 with rfl | ⟨rfl, hc⟩
  · exact e4
  · have hl := lrel_length e4
    obtain ⟨c, rfl⟩ := List.length_eq_one_iff.1 hl.symm
    cases ks with
    | nil => simp [okRow] at hr
    | cons k ks =>
      simp only [okRow, Bool.and_eq_true] at hr
      have e5 := e4
      simp only [LRel] at e5
      obtain ⟨v', vs', q1, q2, _⟩ := e5
      simp only [List.cons.injEq] at q1
      obtain ⟨rfl, _⟩ := q1
      rw [(okCell_one hr.1 q2).1]
      exact e4
theorem setRows_ok {e : Nat} {P : Program} : ∀ (ps : List (Nat × AV)) (us : List (Nat × Value)) {C : Cx} {h h' : List AObj} (rows rows' : List Row) (cells : Array Value), us.length = ps.length →
    (∀ (j : Nat) (p : Nat × AV) (u : Nat × Value), ps[j]? = some p → us[j]? = some u → p.1 = u.1 ∧ VRel C h p.2 u.2) → HRel C h → RowsArr C h e cells rows → setRows C.L nt e h rows ps = some (rows', h') →
    ∃ C' cells', C'.w = C.w ∧ Step nt C h C' h' ∧ HRel C' h' ∧ Instr.fill (fun i => some (i * C.es e, C.es e)) cells us = some cells' ∧ RowsArr C' h' e cells' rows' ∧ rows'.length = rows.length
  | [], [], C, h, h', rows, rows', cells, _, _, H, hr, hf => by
    simp only [setRows, Option.some.injEq, Prod.mk.injEq] at hf
    obtain ⟨rfl, rfl⟩ := hf
    exact ⟨C, cells, rfl, Step.refl nt C h, H, rfl, hr, rfl⟩
  | [], _ :: _, _, _, _, _, _, _, hl, _, _, _, _ => by simp at hl
  | _ :: _, [], _, _, _, _, _, _, hl, _, _, _, _ => by simp at hl
  | (i, v) :: ps, (i', u) :: us, C, h, h', rows, rows', cells, hl, hp, H, hr, hf => by
    obtain ⟨rfl, hv⟩ := hp 0 (i, v) (i', u) rfl rfl
    simp only at hv
    simp only [setRows, Option.bind_eq_some_iff] at hf
    obtain ⟨⟨r, h1⟩, hfz, hf⟩ := hf
    simp only [cond_eq_ite, Bool.and_eq_true] at hf
    split at hf
    case isFalse => cases hf
    rename_i hc
    obtain ⟨hi, hok⟩ := hc
    have hi : i + 1 ≤ rows.length := by simpa [Nat.blt, nble] using hi
    obtain ⟨C1, w1, s1, H1, r1⟩ := part_row H hv hfz hok
    have hL : C1.L = C.L := s1.ext.L
    have hes : C1.es e = C.es e := by simp only [Cx.es, hL]
    obtain ⟨hfit, hset⟩ := rowsArr_set (rowsArr_ext s1.ext hr) hi (by rw [hL]; exact hok) r1
    rw [hes] at hfit
    have hsz : u.cells.size = C.es e := by
      have := lrel_length r1
      rw [okRow_length hok] at this
      simpa [Cx.es] using this
    have hput : u.cells.zipIdx.foldl (fun cs (c, j) => cs.setIfInBounds (i * C.es e + j) c) cells = splice cells (i * C.es e) u.cells.toList := fill_put (by simpa using hfit)
    obtain ⟨C', cells', w2, s2, H2, g1, g2, g3⟩ := setRows_ok (P := P) ps us (C := C1) (h := h1) (h' := h') (upd rows i r) rows' (splice cells (i * C.es e) u.cells.toList) (by simpa using hl) (fun j p q hp' hq' => by
      obtain ⟨a1, a2⟩ := hp (j + 1) p q (by simpa using hp') (by simpa using hq')
      exact ⟨a1, vrel_ext s1.ext a2⟩) H1 (by rw [← hes]; exact hset) (by rw [hL]; exact hf)
    refine ⟨C', cells', w2.trans w1, s1.trans s2, H2, ?_, g2, by rw [g3, upd_length]⟩
    simp only [Instr.fill]
    rw [if_neg (by simp only [Array.length_toList] at hfit; rw [hsz] at hfit ⊢; simp; omega), hput]
    rw [hes] at g1
    exact g1
theorem run_buildSlice {ty e n : Nat} {i : TypeInfo} {z : Value} (hu : P.underlying ty = some (.slice e)) (Te : Ty P (ly C.L e) e i z) (hsz : n * (ly C.L e).cells.length ≤ 16777216) (us : Array (Nat × Value)) {cells' : Array Value}
    (hf : Instr.fill (fun i => some (i * C.es e, C.es e)) (madeCells z.cells (n * C.es e)) us.toList = some cells') (w : World) : (Instr.buildSlice ty n us).run P w = .ok (.slice (some ⟨w.heap.size, 0, none⟩) n n) (w.alloc (.cells cells' e)) := by
  have hes : C.es e = (ly C.L e).cells.length := rfl
  have h24 : ¬ (16777216 < n * C.es e) := by rw [hes]; omega
  simp only [madeCells] at hf
  by_cases hn : n * C.es e = 0
  · rw [hn] at hf
    simp only [Array.range_zero', Array.map_empty] at hf
    simp [Instr.buildSlice, run_underlying hu, Te.run_sizeOf, ← hes, hn, newRow, Array.range_zero', hf]
  · simp [Instr.buildSlice, run_underlying hu, Te.run_sizeOf, ← hes, hn, newRow, hf, h24, Te.run_zero]
theorem op_buildSlice {ty n : Nat} {ps : Array (Nat × Operand)} {v : AV} (LK : LOk P C.L) (H : HRel C h) (T : TRel C h t a) (ho : o.op = .buildSlice ty n ps) (hv : buildSliceA C.L nt h ty n (pairs t ps) = some (v, h')) : OpOk P nt C h a o v h' := by
  obtain ⟨hl, hp⟩ := pairs_rel T ps
  unfold buildSliceA at hv
  split at hv
  case h_2 => cases hv
  rename_i e hk
  simp only [cond_eq_ite, nble] at hv
  split at hv
  case isFalse => cases hv
  rename_i hsz
  simp only [Option.bind_eq_some_iff, Option.some.injEq, Prod.mk.injEq] at hv
  obtain ⟨⟨rows', h1⟩, hset, rfl, rfl⟩ := hv
  obtain ⟨i, z, Ts⟩ := LK.ty (t := ty) (by rw [hk]; rfl)
  have hkn := LK.fld ty
  simp only [fldOk, hk, Bool.and_eq_true] at hkn
  obtain ⟨ie, ze, Te⟩ := LK.ty hkn.1
  obtain ⟨C1, cells', w1, s1, H1, g1, g2, g3⟩ := setRows_ok (P := P) _ ((ps.map fun (i, x) => (i, a.eval x)).toList) (C := C) (h := h) (h' := h1) _ _ _ hl hp H (rowsArr_zero Te n) hset
  have hr : (Instr.buildSlice ty n (ps.map fun (i, x) => (i, a.eval x))).run P C.w = .ok (.slice (some ⟨C.w.heap.size, 0, none⟩) n n) (C.w.alloc (.cells cells' e)) := run_buildSlice (C := C) (Ts.slice hk) Te hsz _ g1 C.w
  simp only [List.length_replicate] at g3
  obtain ⟨s2, H2, v2⟩ := step_arr (nt := nt) (e := e) (rows := rows') (c := ⟨false, true⟩) (cap := n) H1 (C1.w.alloc (.cells cells' e)) rfl (by omega) (by rw [g2.1, g3]) g2.2 rfl rfl rfl rfl 0 (Nat.zero_le _)
  have v2 := v2 (fun _ => g3.symm)
  refine op_value (C' := C1.lay h1.length (C1.w.alloc (.cells cells' e)) C1.w.heap.size n) (x := .slice (some ⟨C.w.heap.size, 0, none⟩) n n) ?_ (s1.trans s2) H2 ?_
  · simp only [execOp, ho, Sem.run_bind, hr, Result.andThen_ok, Sem.run_pure, Cx.lay, w1]
  · rw [g3, w1] at v2; rw [w1]; exact v2
theorem op_makeSlice {ty : Nat} {x y : Operand} {v : AV} (LK : LOk P C.L) (H : HRel C h) (T : TRel C h t a) (ho : o.op = .makeSlice ty x y) (hv : makeSliceA C.L h ty (opd t x) (opd t y) = some (true, v, h')) : OpOk P nt C h a o v h' := by
  have hx := vrel_opd T x
  have hy := vrel_opd T y
  unfold makeSliceA at hv
  split at hv
  case h_2 => cases hv
  rename_i e k1 n k2 c hk hxn hyn
  rw [hxn] at hx; rw [hyn] at hy
  simp only [VRel] at hx hy
  simp only [cond_eq_ite] at hv
  split at hv
  case isFalse => cases hv
  rename_i hkn
  simp only [Option.some.injEq, Prod.mk.injEq, Bool.and_eq_true, decide_eq_true_eq] at hv
  obtain ⟨⟨⟨⟨h0, hnc⟩, hb⟩, h63⟩, rfl, rfl⟩ := hv
  obtain ⟨i, z, Ts⟩ := LK.ty (t := ty) (by rw [hk]; rfl)
  obtain ⟨ie, ze, Te⟩ := LK.ty hkn
  have hr := run_make (P := P) C.w ty e ie ze (Ts.slice hk) Te.info Te.zero k1 k2 n c h0 hnc (by rw [Te.bytes]; simp only [maxB] at hb; omega) (by simp only [maxB] at h63; omega)
  have harr := rowsArr_zero (C := C) (h := h) Te c.toNat
  rw [Te.size] at hr
  obtain ⟨s2, H2, v2⟩ := step_arr (nt := nt) (e := e) (rows := List.replicate n.toNat (zCells (ly C.L e))) (c := ⟨false, decide (n = c)⟩) (cap := c.toNat) H (C.w.alloc (.cells (madeCells ze.cells (c.toNat * (ly C.L e).cells.length)) e)) rfl (by simp; omega) (by rw [size_madeCells]; rfl)
    (fun i hi => by
      simp only [List.length_replicate] at hi
      have := harr.2 i (by simp; omega)
      rw [nth_replicate _ _ _ _ hi]
      rwa [nth_replicate _ _ _ _ (by omega)] at this) rfl rfl rfl rfl 0 (Nat.zero_le _)
  have v2 := v2 (fun hq => by simp only [decide_eq_true_eq] at hq; subst hq; simp)
  simp only [List.length_replicate] at v2
  exact op_value (x := .slice (some ⟨C.w.heap.size, 0, none⟩) n.toNat c.toNat) (by simp only [execOp, ho, hx, hy, Sem.run_bind, hr, Result.andThen_ok, Sem.run_pure, Cx.lay]) s2 H2 v2
theorem op_makeMap {ty kt vt : Nat} (LK : LOk P C.L) (H : HRel C h) (ho : o.op = .makeMap ty none) (hk : (ly C.L ty).k = .map kt vt) : OpOk P nt C h a o (.map h.length) (h ++ [.mp ty []]) := by
  obtain ⟨hs, hH⟩ := step_lay (nt := nt) H (.mp ty []) (.map #[] 0) (C.w.alloc (.map #[] 0)) 0 rfl rfl rfl rfl (fun E => by
    simp only [HObj, Cx.lay, hk]
    exact ⟨#[], 0, by simp only [if_true]; exact heap_alloc_new _ _, by simp only [EntsRel]⟩)
  refine op_value (x := .map (some C.w.heap.size)) ?_ hs hH ?_
  · simp [execOp, ho, Instr.makeMap, Cx.lay]
  · simp only [VRel, RefOk]
    refine ⟨⟨rfl, rfl⟩, by simp, ?_⟩
    rw [nth_append]; simp [nth, Cx.lay]
end
end Go.Ev
/- The engine, part 17: writes to maps, conversions. -/
namespace Go.Ev
open Go

section
variable {P : Program} {C C' : Cx} {h h' : List AObj} {t : List AV} {a : Act} {o : Oper} {nt : Nat}

theorem entsRel_of {kt vt : Nat} : ∀ {es : List (AV × AV)} {xs : List MapEntry}, xs.length = es.length → (∀ j, j < es.length → ∃ e, xs[j]? = some e ∧ EntRel C h kt vt (nth (.u, .u) es j) e) → EntsRel C h kt vt es xs
  | [], xs, hl, _ => by simp only [EntsRel]; exact List.eq_nil_of_length_eq_zero hl
  | p :: ps, [], hl, _ => by simp at hl
  | p :: ps, x :: xs, hl, hr => by
    simp only [EntsRel]
    obtain ⟨e, h1, h2⟩ := hr 0 (by simp)
    simp only [List.getElem?_cons_zero, Option.some.injEq] at h1
    subst h1
    refine ⟨x, xs, rfl, by simpa only [nth] using h2, entsRel_of (by simpa using hl) fun j hj => ?_⟩
    obtain ⟨e, h1, h2⟩ := hr (j + 1) (by simpa using hj)
    exact ⟨e, by simpa using h1, by simpa only [nth] using h2⟩
theorem shaped_iff {g : Bool} {v : AV} (hs : shaped g v = true) : if g then ∃ cs, v = .agg cs else oneCell v = true := by
  cases g
  · simpa [shaped] using hs
  · simp only [shaped, cond_true] at hs
    simp only [if_true]
    cases v <;> simp [isAgg'] at hs
    exact ⟨_, rfl⟩
theorem run_setMap {w : World} {r : Nat} {es : Array MapEntry} {clock : Nat} (o : Obj) (hb : w.heap[r]? = some (.map es clock)) : (setObj r o).run P w = .ok () { w with heap := w.heap.setIfInBounds r o } := by simp [setObj, Sem.run, hb]
theorem step_map (H : HRel C h) {k tt kt vt : Nat} {es es' : List (AV × AV)} {xs xs' : Array MapEntry} {ck ck' : Nat} (hk : k < h.length) (hn : nth .dead h k = .mp tt es) (hg : C.w.heap[C.mu k]? = some (.map xs ck)) (htt : (ly C.L tt).k = .map kt vt)
    (hr : EntsRel C h kt vt es' xs'.toList) :
    Step nt C h (C.wr { C.w with heap := C.w.heap.setIfInBounds (C.mu k) (.map xs' ck') }) (upd h k (.mp tt es')) ∧ HRel (C.wr { C.w with heap := C.w.heap.setIfInBounds (C.mu k) (.map xs' ck') }) (upd h k (.mp tt es')) := by
  have hlt : C.mu k < C.w.heap.size := (Array.getElem?_eq_some_iff.1 hg).1
  have hnn : nth .dead (upd h k (.mp tt es')) k = .mp tt es' := by rw [nth_upd, if_pos ⟨rfl, hk⟩]
  have hl : live (nth .dead h k) = true := by rw [hn]; rfl
  have hoth : ∀ b, C.mu k ≠ b → (C.w.heap.setIfInBounds (C.mu k) (.map xs' ck'))[b]? = C.w.heap[b]? := fun b hb => Array.getElem?_setIfInBounds_ne hb
  refine step_one H k rfl (by rw [upd_length]; exact Nat.le_refl _) (fun oo h1 h2 => by rw [upd_length] at h2; omega) (fun oo hq => by rw [nth_upd, if_neg (by omega)]) (fun oo hq => rfl) (fun oo hq => rfl) (fun t b y hq => ⟨hq, ?_⟩) rfl rfl rfl (by simp [Cx.wr])
    (fun b hb hq => hoth b (hq hk hl)) (fun _ => by rw [hnn, hn]; rfl) (fun _ _ => .inl ⟨hk, hl, rfl⟩) (fun t b y hq => .inl hq) (fun t b y hq => by simpa [Cx.wr] using H.fix t b y hq) (fun E _ => by
      rw [hnn]
      simp only [HObj, Cx.wr, htt]
      exact ⟨xs', ck', by rw [Array.getElem?_setIfInBounds_self_of_lt hlt], entsRel_ext E hr⟩)
  simp only [cellAt, Cx.wr, World.cell?]
  by_cases hb : b = C.mu k
  · subst hb
    rw [Array.getElem?_setIfInBounds_self_of_lt hlt, hg]
  · rw [hoth b (Ne.symm hb)]
theorem same_key {kk : K} {x y : AV} {u v : Value} (hx : okKey kk x = true) (hy : okKey kk y = true) (hu : VRel C h x u) (hv : VRel C h y v) (he : keyEq x y = true) : Instr.sameBits 10000 v u = true := by
  cases kk <;> cases x <;> simp [okKey] at hx <;> cases y <;> simp [okKey] at hy <;> simp only [VRel] at hu hv <;> subst hu <;> subst hv <;> simp [keyEq] at he <;> subst he
  · subst hx; subst hy; simp [Instr.sameBits]
  · simp [Instr.sameBits]
  · show (ByteArray.beq _ _) = true
    simp [ByteArray.beq]
theorem op_mapSet {ty : Nat} {m key v : Operand} (LK : LOk P C.L) (H : HRel C h) (T : TRel C h t a) (ho : o.op = .mapUpdate ty m key v ∨ o.op = .insert ty m key v) (hv : mapSetA C.L nt h ty (opd t m) (opd t key) (opd t v) = some h') : OpOk P nt C h a o .u h' := by
  have hm := vrel_opd T m
  have hk := vrel_opd T key
  have hval := vrel_opd T v
  revert hm hk hval hv
  generalize opd t m = am
  generalize opd t key = ak
  generalize opd t v = av
  intro hv hm hk hval
  unfold mapSetA at hv
  split at hv
  case h_2 => cases hv
  rename_i kt vt oo hkk
  simp only [Option.bind_eq_some_iff] at hv
  obtain ⟨⟨v1, h1⟩, hf, hv⟩ := hv
  obtain ⟨C1, w1, s1, H1, hval1⟩ := frz_ok (nt := nt) H hval hf
  have hL : C1.L = C.L := s1.ext.L
  have hm := vrel_ext s1.ext hm
  have hk := vrel_ext s1.ext hk
  rw [← hL] at hv hkk LK
  cases hkey : okKey (ly C1.L kt).k ak
  · simp [hkey] at hv
  cases hvk : (ly C1.L vt).k.known
  · simp [hvk] at hv
  cases hok : okRow (ly C1.L vt).cells v1.toCells
  · simp [hok] at hv
  cases hsh : shaped (ly C1.L vt).k.agg v1
  · simp [hsh] at hv
  simp only [hkey, hvk, hok, hsh, Bool.and_self, cond_true] at hv
  have hshape := shaped_iff hsh
  simp only [VRel, RefOk] at hm
  replace hm := hm.2
  cases hn : nth .dead h1 oo with
  | dead => rw [hn] at hv; cases hv
  | box _ _ => rw [hn] at hv; cases hv
  | arr _ _ _ _ _ => rw [hn] at hv; cases hv
  | mp t' es =>
    rw [hn] at hv hm
    simp only [cond_eq_ite, nbeq] at hv
    split at hv
    case isFalse => cases hv
    rename_i htt; subst htt
    simp only [Option.some.injEq] at hv
    subst hv
    obtain ⟨i, z, Ts⟩ := LK.ty (t := ty) (by rw [hkk]; rfl)
    have hkkn : (ly C1.L kt).k.known = true := by cases hq : (ly C1.L kt).k <;> rw [hq] at hkey <;> simp [okKey] at hkey <;> rfl
    obtain ⟨ik, zk, Tk⟩ := LK.ty hkkn
    obtain ⟨d, hd, hkd⟩ := Tk.under
    have hu := Ts.map hkk
    have hck := fun em => run_checkKey (em := em) hd hkd hkey (u := a.eval key) 9999 C1.w
    have hob := H1.obj oo hm.1
    rw [hn] at hob
    obtain ⟨kt', vt', xs, ck, q1, q2, q3⟩ := hmap_obj hob
    rw [hkk] at q1
    simp only [K.map.injEq] at q1
    obtain ⟨rfl, rfl⟩ := q1
    obtain ⟨r, g1, g2⟩ := findNow_ok hkd hkey hk es xs.toList 0 q3
    have hget : (getObj (C1.mu oo)).run P C1.w = .ok (.map xs ck) C1.w := by simp [getObj, Sem.run, q2]
    have hxl := entsRel_length q3
    simp only [Array.length_toList] at hxl
    cases r with
    | none =>
      rw [g2.2]
      have hr : EntsRel C1 h1 kt vt (es ++ [(ak, v1)]) (xs.push { key := a.eval key, val := a.eval v, born := ck }).toList := by
        refine entsRel_of (by simp [hxl]) fun j hj => ?_
        rw [nth_append]
        by_cases hlt : j < es.length
        · rw [if_pos hlt]
          obtain ⟨e, e1, e2⟩ := entsRel_nth q3 j hlt
          refine ⟨e, ?_, e2⟩
          rw [Array.toList_push, List.getElem?_append_left (by simp; omega)]; exact e1
        · have : j = es.length := by simp at hj; omega
          subst this
          rw [if_neg (by omega)]
          refine ⟨{ key := a.eval key, val := a.eval v, born := ck }, ?_, ?_⟩
          · rw [Array.toList_push, List.getElem?_append_right (by simp; omega)]; simp [hxl]
          · simp only [Nat.sub_self, nth]; exact ⟨hkey, hk, hok, hshape, hval1⟩
      obtain ⟨s2, H2⟩ := step_map (nt := nt) (ck' := ck + 1) H1 hm.1 hn q2 hkk hr
      refine op_skip ?_ (s1.trans s2) H2
      have hrun : (Instr.mapUpdate ty (a.eval m) (a.eval key) (a.eval v)).run P C1.w = .ok () { C1.w with heap := C1.w.heap.setIfInBounds (C1.mu oo) (.map (xs.push { key := a.eval key, val := a.eval v, born := ck }) (ck + 1)) } := by
        rw [hm.2]
        simp [Instr.mapUpdate, run_underlying hu, hget, hck, Instr.findKey, run_underlying hd, g1, run_setMap _ q2]
      rcases ho with ho | ho <;> simp only [execOp, ho, Sem.run_bind, ← w1, hrun, Result.andThen_ok, Sem.run_pure, Cx.wr]
    | some r =>
      obtain ⟨k, y⟩ := r
      obtain ⟨j, v', a1, a2, a3, a4, a5, a6⟩ := g2
      obtain rfl : k = j := by omega
      rw [a6]
      obtain ⟨e0, c1, c2⟩ := entsRel_nth q3 k a2
      have hsame := same_key hkey c2.1 hk c2.2.1 a5
      have hr : EntsRel C1 h1 kt vt (upd es k (ak, v1)) (xs.modify k fun e => { e with key := a.eval key, val := a.eval v }).toList := by
        refine entsRel_of (by simp [upd_length, hxl]) fun j hj => ?_
        rw [upd_length] at hj
        rw [nth_upd]
        obtain ⟨e, e1, e2⟩ := entsRel_nth q3 j hj
        by_cases hjk : j = k
        · subst hjk
          rw [if_pos ⟨rfl, hj⟩]
          refine ⟨{ e with key := a.eval key, val := a.eval v }, ?_, hkey, hk, hok, hshape, hval1⟩
          rw [Array.getElem?_toList, Array.getElem?_modify, if_pos rfl, ← Array.getElem?_toList, e1]; rfl
        · rw [if_neg (by omega)]
          refine ⟨e, ?_, e2⟩
          rw [Array.getElem?_toList, Array.getElem?_modify, if_neg (Ne.symm hjk), ← Array.getElem?_toList, e1]
      obtain ⟨s2, H2⟩ := step_map (nt := nt) (ck' := ck) H1 hm.1 hn q2 hkk hr
      refine op_skip ?_ (s1.trans s2) H2
      have c1' : xs[k]? = some e0 := by simpa using c1
      have hrun : (Instr.mapUpdate ty (a.eval m) (a.eval key) (a.eval v)).run P C1.w = .ok () { C1.w with heap := C1.w.heap.setIfInBounds (C1.mu oo) (.map (xs.modify k fun e => { e with key := a.eval key, val := a.eval v }) ck) } := by
        rw [hm.2]
        simp [Instr.mapUpdate, run_underlying hu, hget, hck, Instr.findKey, run_underlying hd, g1, run_setMap _ q2, c1', Instr.keyThatStays, hsame]
      rcases ho with ho | ho <;> simp only [execOp, ho, Sem.run_bind, ← w1, hrun, Result.andThen_ok, Sem.run_pure, Cx.wr]
end
end Go.Ev
/- The engine, part 18: conversions. -/
namespace Go.Ev
open Go

section
variable {P : Program} {C C' : Cx} {h h' : List AObj} {t : List AV} {a : Act} {o : Oper} {nt : Nat}

def Cx.ps (C : Cx) (nt : Nat) (w' : World) (n : Nat) : Cx := { C with w := w', S := fun t b x => C.S t b x ∨ (t = nt ∧ b = C.w.heap.size ∧ x < n) }
/-- new memory that nobody writes -/
theorem step_ps (H : HRel C h) (ob : Obj) (w' : World) (n : Nat) (hw : w'.heap = C.w.heap.push ob) (hos : w'.os = C.w.os) (htape : w'.tape = C.w.tape) (hout : w'.output = C.w.output) : Step nt C h (C.ps nt w' n) h ∧ HRel (C.ps nt w' n) h := by
  have hsz : w'.heap.size = C.w.heap.size + 1 := by rw [hw]; simp
  have hold : ∀ b, b < C.w.heap.size → w'.heap[b]? = C.w.heap[b]? := fun b hb => by rw [hw, Array.getElem?_push_lt hb]; simp [hb]
  refine step_one H h.length rfl (Nat.le_refl _) (fun oo h1 h2 => by omega) (fun oo hk => rfl) (fun oo hk => rfl) (fun oo hk => rfl) (fun t b y hq => ⟨.inl hq, ?_⟩) hos htape hout (by simp [Cx.ps, hsz])
    (fun b hb _ => hold b hb) (fun hq => absurd hq (by simp)) (fun hq => absurd hq (by simp)) (fun t b y hq => ?_) (fun t b y hq => ?_) (fun E hq => absurd hq (by simp))
  · have := H.fix t b y hq
    simp only [cellAt, World.cell?, Cx.ps, hold b this]
  · rcases hq with hq | ⟨h1, h2, h3⟩
    · exact .inl hq
    · exact .inr ⟨h1, .inr (by omega)⟩
  · rcases hq with hq | ⟨h1, h2, h3⟩
    · have := H.fix t b y hq; simp [Cx.ps, hsz]; omega
    · simp [Cx.ps, hsz]; omega
theorem foldl_bytes : ∀ (ns : List Int) (r : ByteArray), ns.foldl (fun r n => r.push (UInt8.ofNat n.toNat)) r = ⟨r.data ++ (ns.map fun n => UInt8.ofNat n.toNat).toArray⟩
  | [], r => by simp
  | n :: ns, r => by
    simp only [List.foldl_cons]
    rw [foldl_bytes ns]
    simp [ByteArray.push]
theorem rows_bytes {e : Nat} (he : (ly C.L e).cells = [.int .u8]) : ∀ {xs : List Row} {news : List Value}, RowsIn C h e news xs → news = (xs.map fun r => ci r 0).map (Value.int .u8)
  | xs, news, hr => by
    obtain ⟨h1, h2, h3⟩ := hr
    have hes : C.es e = 1 := by simp [Cx.es, he]
    rw [hes, Nat.mul_one] at h1
    apply List.ext_getElem?
    intro i
    by_cases hi : i < xs.length
    · obtain ⟨r1, vs, r2, r3⟩ := h3 i hi
      rw [hes, Nat.mul_one] at r3
      have hn : nth [] xs i = xs[i] := by rw [nth_getElem?, List.getElem?_eq_getElem hi]; rfl
      rw [hn] at r1 r2
      rw [he] at r1
      have e0 := r3 0 (by rw [lrel_length r2, okRow_length r1]; simp)
      simp only [Nat.add_zero, List.getElem?_toArray] at e0
      simp only [List.getElem?_map, List.getElem?_eq_getElem hi, Option.map_some]
      revert r1 r2 e0
      generalize xs[i] = r
      intro r1 r2 e0
      rw [e0]
      cases r with
      | nil => simp [okRow] at r1
      | cons c r =>
        cases r with
        | cons => simp [okRow] at r1
        | nil =>
          simp only [okRow, Bool.and_true] at r1
          simp only [LRel] at r2
          obtain ⟨v, vs', rfl, q1, _⟩ := r2
          cases c <;> simp [okCell] at r1
          subst r1
          simp only [VRel] at q1
          subst q1
          simp [ci, nth, AV.toI]
    · rw [List.getElem?_eq_none (by omega), List.getElem?_eq_none (by simp; omega)]
theorem op_convert {src dst : Nat} {x : Operand} {v : AV} (LK : LOk P C.L) (H : HRel C h) (T : TRel C h t a) (ho : o.op = .convert src dst x) (hv : convertA C.L nt h src dst (opd t x) = some (v, h')) : OpOk P nt C h a o v h' := by
  have hx := vrel_opd T x
  revert hx hv
  generalize opd t x = ax
  intro hv hx
  have rd : ∀ r, (convert src dst (a.eval x)).run P C.w = .ok r C.w → VRel C h v r → h' = h → OpOk P nt C h a o v h' := fun r hr hvr he => by
    subst he
    exact ReadOk.op H ⟨r, by simp only [execOp, ho, Sem.run_bind, hr, Result.andThen_ok, Sem.run_pure], hvr⟩
  unfold convertA at hv
  split at hv
  · rename_i k1 k2 k3 n hk1 hk2
    simp only [Option.some.injEq, Prod.mk.injEq] at hv
    obtain ⟨rfl, rfl⟩ := hv
    obtain ⟨i1, z1, T1⟩ := LK.ty (t := src) (by rw [hk1]; rfl)
    obtain ⟨i2, z2, T2⟩ := LK.ty (t := dst) (by rw [hk2]; rfl)
    simp only [VRel] at hx
    refine rd (.int k2 (k2.wrap n)) ?_ (by simp only [VRel]) rfl
    rw [hx]
    simp [convert, run_underlying (T1.int hk1), run_underlying (T2.int hk2), Conv.intToInt]
  · rename_i s hk1 hk2
    simp only [Option.some.injEq, Prod.mk.injEq] at hv
    obtain ⟨rfl, rfl⟩ := hv
    obtain ⟨i1, z1, T1⟩ := LK.ty (t := src) (by rw [hk1]; rfl)
    obtain ⟨i2, z2, T2⟩ := LK.ty (t := dst) (by rw [hk2]; rfl)
    simp only [VRel] at hx
    refine rd (.string ⟨s.toArray⟩) ?_ (by simp only [VRel]) rfl
    rw [hx]
    simp [convert, run_underlying (T1.str hk1), run_underlying (T2.str hk2)]
  · rename_i e s hk1 hk2
    split at hv
    case h_2 => cases hv
    rename_i hk3 hce
    simp only [Option.some.injEq, Prod.mk.injEq] at hv
    obtain ⟨rfl, rfl⟩ := hv
    obtain ⟨i1, z1, T1⟩ := LK.ty (t := src) (by rw [hk1]; rfl)
    obtain ⟨i2, z2, T2⟩ := LK.ty (t := dst) (by rw [hk2]; rfl)
    obtain ⟨i3, z3, T3⟩ := LK.ty (t := e) (by rw [hk3]; rfl)
    simp only [VRel] at hx
    have hr := run_bytes_of_string (P := P) C.w src dst e ⟨s.toArray⟩ (T1.str hk1) (T2.slice hk2) (T3.int hk3)
    have hlen : (⟨s.toArray⟩ : ByteArray).size = s.length := by simp [ByteArray.size]
    rw [hlen] at hr
    obtain ⟨s1, H1⟩ := step_ps (nt := nt) H (.cells (bytesRow ⟨s.toArray⟩ (grownCap C.w s.length 0 e)) e ((bytesRow ⟨s.toArray⟩ (grownCap C.w s.length 0 e)).size, (bytesRow ⟨s.toArray⟩ (grownCap C.w s.length 0 e)).size + 1))
      (C.w.drew.alloc (.cells (bytesRow ⟨s.toArray⟩ (grownCap C.w s.length 0 e)) e ((bytesRow ⟨s.toArray⟩ (grownCap C.w s.length 0 e)).size, (bytesRow ⟨s.toArray⟩ (grownCap C.w s.length 0 e)).size + 1))) s.length rfl rfl rfl rfl
    refine op_value (x := .slice (some ⟨C.w.heap.size, 0, none⟩) s.length (grownCap C.w s.length 0 e)) (by rw [← hx] at hr; simp only [execOp, ho, Sem.run_bind, hr, Result.andThen_ok, Sem.run_pure, Cx.ps]) s1 H1 ?_
    have hbl : (byteRows s).length = s.length := by simp [byteRows]
    refine vrel_ps.2 ⟨some ⟨C.w.heap.size, 0, none⟩, grownCap C.w s.length 0 e, by rw [hbl], by rw [hbl]; exact grownCap_ge _ _ _ _, ?_, ?_, ?_, fun _ => ⟨_, _, rfl, ?_⟩⟩
    · intro hq; cases hq
    · intro _; rfl
    · intro hq; cases hq
    have hL : (C.ps nt (C.w.drew.alloc (.cells (bytesRow ⟨s.toArray⟩ (grownCap C.w s.length 0 e)) e ((bytesRow ⟨s.toArray⟩ (grownCap C.w s.length 0 e)).size, (bytesRow ⟨s.toArray⟩ (grownCap C.w s.length 0 e)).size + 1))) s.length).L = C.L := rfl
    rw [hL, hce]
    refine rowsRel_of fun j hj => ?_
    rw [hbl] at hj
    have hnj : nth [] (byteRows s) j = [.int .u8 (s[j].toNat : Int)] := by
      rw [nth_getElem?, byteRows, List.getElem?_map, List.getElem?_eq_getElem hj]; rfl
    rw [hnj]
    refine ⟨by simp [okRow, okCell], ?_⟩
    simp only [CellsRel, List.length_singleton, Nat.mul_one, Nat.zero_add, and_true]
    refine ⟨.int .u8 (s[j].toNat : Int), ?_, .inr ⟨rfl, rfl, hj⟩, by simp only [VRel]⟩
    have h1 := World.cell?_alloc_mark C.w.drew (bytesRow ⟨s.toArray⟩ (grownCap C.w s.length 0 e)) e ((bytesRow ⟨s.toArray⟩ (grownCap C.w s.length 0 e)).size, (bytesRow ⟨s.toArray⟩ (grownCap C.w s.length 0 e)).size + 1) j
    have h2 := bytesRow_at ⟨s.toArray⟩ (grownCap C.w s.length 0 e) j (by simpa using hj)
    rw [h2] at h1
    simpa [cellAt, Cx.ps] using h1
  · rename_i ax _ _ _ e hk1 hk2
    split at hv
    case h_2 => cases hv
    rename_i hk3 hce
    simp only [Option.bind_eq_some_iff] at hv
    obtain ⟨⟨e', rows⟩, hro, hv⟩ := hv
    simp only [cond_eq_ite] at hv
    split at hv
    case isFalse => cases hv
    rename_i hcc
    simp only [Option.some.injEq, Prod.mk.injEq] at hv
    obtain ⟨rfl, rfl⟩ := hv
    obtain ⟨i1, z1, T1⟩ := LK.ty (t := src) (by rw [hk1]; rfl)
    obtain ⟨i2, z2, T2⟩ := LK.ty (t := dst) (by rw [hk2]; rfl)
    obtain ⟨i3, z3, T3⟩ := LK.ty (t := e) (by rw [hk3]; rfl)
    have hsr : srcRows C.L h e ax = some rows := by
      have hne : ∀ s, ax ≠ .str s := by rintro s rfl; simp [rowsOf] at hro
      cases ax <;> first | exact absurd rfl (hne _) | simp only [srcRows, hro, Option.bind_some, cond_eq_ite, hcc, if_true]
    obtain ⟨news, S⟩ := src_ok (P := P) LK H hx hsr
    have hnews := rows_bytes hce S.rows
    have hes : C.es e = 1 := by simp [Cx.es, hce]
    have hsl : ∃ ad n cap, a.eval x = .slice ad n cap := by
      cases ax <;> simp only [rowsOf, reduceCtorEq] at hro
      case ps => obtain ⟨ad, cap, hq, _⟩ := vrel_ps.1 hx; exact ⟨_, _, _, hq⟩
      case own oo ver =>
        cases hn : nth .dead h oo with
        | dead => rw [hn] at hro; cases hro
        | box _ _ => rw [hn] at hro; cases hro
        | mp _ _ => rw [hn] at hro; cases hro
        | arr e' rows c w fz =>
          rw [hn] at hro
          simp only [cond_eq_ite, nbeq] at hro
          split at hro
          case isFalse => cases hro
          rename_i hvv; subst hvv
          obtain ⟨_, ad, hq, _⟩ := own_value hn hx
          exact ⟨_, _, _, hq⟩
      case sl oo ver off len =>
        cases hn : nth .dead h oo with
        | dead => rw [hn] at hro; cases hro
        | box _ _ => rw [hn] at hro; cases hro
        | mp _ _ => rw [hn] at hro; cases hro
        | arr e' rows c w fz =>
          rw [hn] at hro
          simp only [cond_eq_ite, nbeq] at hro
          split at hro
          case isFalse => cases hro
          rename_i hvv; subst hvv
          obtain ⟨_, ad, hq, _⟩ := sl_value hn hx
          exact ⟨_, _, _, hq⟩
    obtain ⟨ad, n, cap, hval⟩ := hsl
    refine rd (.string ⟨(rows.map fun r => UInt8.ofNat (ci r 0).toNat).toArray⟩) ?_ (by simp only [VRel]) rfl
    rw [hval] at S ⊢
    rw [run_convert_bytes_string C.w src dst e ad n cap (T1.slice hk1) (T3.int hk3) (T2.str hk2)]
    have hl := S.len C.w
    simp only [Builtin.lenOf, Sem.run_pure, Result.ok.injEq, and_true] at hl
    subst hl
    have hc := S.cells C.w (fun _ _ => rfl)
    rw [hes, hnews] at hc
    cases ad with
    | none =>
      simp only [Builtin.firstCells, Sem.run_pure, Result.ok.injEq, and_true] at hc
      have : rows = [] := by
        cases rows with
        | nil => rfl
        | cons r rs => simp at hc
      subst this
      simp [Conv.bytesToString]; rfl
    | some b =>
      simp only [Builtin.firstCells, Nat.mul_one] at hc
      rw [run_bytesToString C.w b rows.length cap (rows.map fun r => ci r 0) hc, foldl_bytes]
      congr 2
      simp only [List.map_map]
      show ByteArray.mk (ByteArray.empty.data ++ _) = _
      have he0 : ByteArray.empty.data = #[] := rfl
      rw [he0]
      simp
  · cases hv
end
end Go.Ev
