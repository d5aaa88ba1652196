/- A row whose law returns true whatever it is handed: out of a fact of the law's function. -/
import Derived.Test.YtljiamlnpmhpmaaOpen
import Derived.WalkKit
import Derived.ProofKit
import Derived.OpenShut
import Derived.JoinedCond
import Derived.Carry
import Derived.WideKeyArgs
set_option linter.unusedVariables false
set_option linter.unusedSimpArgs false
namespace Go.Ev
open Go Go.ChangeShapes Go.WideShapes Go.ChangeAt Go.RowKit
open Go.Proofs.Ytljiamlnpmhpmaa.Rows (uptoBulk uptoBulkAll uptoSmall)

section
variable {P : Program} {L : List Ly} {w : World} {H : Type} {enc : TypeId × Value → H} {spare : Nat → Bool}
/-- an argument as the evaluator has it -/
def argOk (L : List Ly) (t : Nat) (r : Row) : Prop := exRow (ly L t).cells r = true ∧ wfVL L r = true
theorem rdTy_known {TS : List Nat} {t : Nat} (hr : rdTy L TS t = true) : (ly L t).k.known = true := by
  unfold rdTy at hr
  cases hq : (ly L t).k <;> rw [hq] at hr <;> first | rfl | (simp at hr)
theorem arg_open (LK : LOk P L) {TS : List Nat} (hT : TS.all (rdTy L TS) = true) {t : Nat} (ht : TS.contains t = true) {v : Value} {d : DataW H} {ps : List MemPlace} {base : Nat} (hv : Value.okWide P w .any base t v)
    (h : DataW.Trod enc P w 0 spare true t v d ps) : ∃ r, VRel (Cx.start L w) [] (packed (ly L t) r) v ∧ argOk L t r ∧ T.szL r + 1 ≤ 2 * uptoBulk d := by
  obtain ⟨n, hn⟩ := h
  obtain ⟨r, h1, h2, h3, h4⟩ := open_trod LK TS hT n t _ _ ht hn
  have hr := List.all_eq_true.1 hT t (by simpa using ht)
  obtain ⟨i, z, Tt⟩ := LK.ty (rdTy_known hr)
  refine ⟨r, ?_, ⟨h2, h3⟩, h4⟩
  have one : ∀ u : Value, u.cells = #[u] → v = u → (ly L t).k.agg = false → VRel (Cx.start L w) [] (packed (ly L t) r) v := fun u hu hvu ha => by
    subst hvu
    rw [hu] at h1
    unfold packed
    rw [ha, cond_false]
    cases r with
    | nil => simp [LRel] at h1
    | cons c cs =>
      simp only [LRel] at h1
      obtain ⟨v', vs', hq, hc, hcs⟩ := h1
      cases cs with
      | nil => simp only [LRel] at hcs; subst hcs; simp at hq; subst hq; exact hc
      | cons c' cs =>
        simp only [LRel] at hcs
        obtain ⟨_, _, rfl, _, _⟩ := hcs
        simp at hq
  cases hq : (ly L t).k with
  | int k =>
    obtain ⟨m, rfl⟩ := okWide_int (Tt.int hq) hv
    exact one _ rfl rfl (by rw [hq]; rfl)
  | bool =>
    obtain ⟨m, rfl⟩ := okWide_bool (Tt.bool hq) hv
    exact one _ rfl rfl (by rw [hq]; rfl)
  | str =>
    obtain ⟨m, rfl⟩ := okWide_string (Tt.str hq) hv
    exact one _ rfl rfl (by rw [hq]; rfl)
  | slice e =>
    obtain ⟨a, len, cap, rfl⟩ := okWide_slice (Tt.slice hq) hv
    exact one _ rfl rfl (by rw [hq]; rfl)
  | struct fs =>
    obtain ⟨gs, hu, _⟩ := Tt.struct hq
    obtain ⟨cs, rfl, _⟩ := okWide_struct hu hv
    unfold packed
    rw [hq]
    simp only [K.agg, cond_true, VRel]
    exact ⟨cs.toList, by simp, h1⟩
  | array k e =>
    have hu := Tt.array hq
    unfold Value.okWide at hv
    rw [hu] at hv
    obtain ⟨cs, rfl, _⟩ := hv
    unfold packed
    rw [hq]
    simp only [K.agg, cond_true, VRel]
    exact ⟨cs.toList, by simp, h1⟩
  | map => simp [rdTy, hq] at hr
  | fn => simp [rdTy, hq] at hr
  | ptr => simp [rdTy, hq] at hr
  | iface => simp [rdTy, hq] at hr
  | other => simp [rdTy, hq] at hr
def argAVs (L : List Ly) : List Nat → List Row → List AV
  | t :: ts, r :: rs => packed (ly L t) r :: argAVs L ts rs
  | _, _ => []
def ArgsOk (L : List Ly) : List Nat → List Row → Prop
  | [], [] => True
  | t :: ts, r :: rs => argOk L t r ∧ ArgsOk L ts rs
  | _, _ => False
def szA : List Row → Nat
  | [] => 0
  | r :: rs => T.szL r + szA rs
theorem args_open (LK : LOk P L) {TS : List Nat} (hT : TS.all (rdTy L TS) = true) {base : Nat} : ∀ {ts : List Nat} {vs : List Value} {ds : List (DataW H)} {ps : List MemPlace}, ts.all (TS.contains ·) = true → (∀ (j : Nat) t v, ts[j]? = some t → vs[j]? = some v → Value.okWide P w .any base t v) →
    DataW.TrodAll enc P w 0 spare true ts vs ds ps → ∃ rs, LRel (Cx.start L w) [] (argAVs L ts rs) vs ∧ ArgsOk L ts rs ∧ szA rs ≤ 2 * uptoBulkAll ds
  | [], [], [], ps, _, _, h => ⟨[], by simp [argAVs, LRel], trivial, by simp [szA]⟩
  | t :: ts, v :: vs, d :: ds, ps, hts, hv, h => by
    obtain ⟨p, q, h1, h2, _⟩ := h
    simp only [List.all_cons, Bool.and_eq_true] at hts
    obtain ⟨r, g1, g2, g3⟩ := arg_open LK hT hts.1 (hv 0 t v rfl rfl) h1
    obtain ⟨rs, k1, k2, k3⟩ := args_open LK hT hts.2 (fun j t v a b => hv (j + 1) t v (by simpa using a) (by simpa using b)) h2
    refine ⟨r :: rs, ?_, ⟨g2, k2⟩, ?_⟩
    · simp only [argAVs, LRel]; exact ⟨v, vs, rfl, g1, k1⟩
    · simp only [szA, uptoBulkAll]; omega
theorem trodAll_stays (hl : laidOutB P = true) {W W' : World} {sp : Nat → Bool} (hb : RowKit.Below W.heap.size W W') : ∀ {ts : List Nat} {vs : List Value} {ds : List (DataW H)} {ps : List MemPlace}, (ts.all fun t => P.readableRec t && decide (t < P.types.size)) = true →
    DataW.TrodAll enc P W 0 (fun _ => true) true ts vs ds ps → (∀ x ∈ ps, x.block < W.heap.size) → (∀ p ∈ ps, sp p.block = true) → DataW.TrodAll enc P W' 0 sp true ts vs ds ps
  | [], [], [], ps, _, h, _, _ => h
  | t :: ts, v :: vs, d :: ds, ps, hts, h, hlt, hsp => by
    obtain ⟨p, q, h1, h2, rfl⟩ := h
    simp only [List.all_cons, Bool.and_eq_true, decide_eq_true_eq] at hts
    exact ⟨p, q, WideElems.Trod_stays hl hts.1.1 hts.1.2 h1 (fun x hx => hb.same (hlt x (List.mem_append_left _ hx))) (fun x hx => hsp x (List.mem_append_left _ hx)),
      trodAll_stays hl hb (by simpa using hts.2) h2 (fun x hx => hlt x (List.mem_append_right _ hx)) (fun x hx => hsp x (List.mem_append_right _ hx)), rfl⟩
theorem trodAll_length : ∀ {ts : List Nat} {vs : List Value} {ds : List (DataW H)} {ps : List MemPlace} {sp : Nat → Bool}, DataW.TrodAll enc P w 0 sp true ts vs ds ps → ds.length = ts.length
  | [], [], [], _, _, _ => rfl
  | t :: ts, v :: vs, d :: ds, ps, _, h => by
    obtain ⟨p, q, _, h2, _⟩ := h
    simp [trodAll_length h2]
end
/-- A fact of the law's function, as a call from a world in which nothing is an object. -/
theorem fact_true {nt f : Nat} {args : List AV} {vs : List Value} {w : World} {h' : List AObj} (hf : Fact Go.Proofs.Try.prog T.L T.F nt f args [] [.bool true] h') (hr : LRel (Cx.start T.L w) [] args vs) :
    Calls Go.Proofs.Try.prog f vs.toArray w fun e w' => e = .returned (.bool true) ∧ Go.RowKit.Below w.heap.size w w' := by
  refine (hf _ _ rfl (start_hrel T.L w) hr).2.mono fun e w' he => ?_
  cases e with
  | returned x =>
    obtain ⟨C', xs, rfl, S, _, R, hx, _⟩ := he
    simp only [LRel, VRel] at R
    obtain ⟨v, vs', rfl, rfl, rfl⟩ := R
    exact ⟨by rw [hx]; rfl, S.os, S.tape, S.output, S.size, fun k hk => S.kept k hk fun o ho => by simp at ho⟩
  | panicked _ => exact he.elim
  | outgrown => exact he.elim
namespace T
open Go.Proofs
/-- the types that the laws' arguments are made of -/
def tyS : List Nat := [3, 2, 4, 5, 9, 22, 23, 24, 26, 30, 31, 32, 34, 42, 49, 54, 55, 56, 58, 70, 73]
theorem tyS_ok : tyS.all (rdTy L tyS) = true := by kernel_rfl
theorem laid : laidOutB Try.prog = true := by kernel_rfl
end T
end Go.Ev
