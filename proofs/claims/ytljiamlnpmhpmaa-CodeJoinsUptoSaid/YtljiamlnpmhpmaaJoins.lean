/- CodeJoins of postern/posternlaw16 returns true, for every two codes that it is handed and on every schedule; they read behind the call as they did. Under one condition, the row's own: what is handed in is of bulk at most 1048576. -/
import Derived.Test.YtljiamlnpmhpmaaWf
import Derived.Test.YtljiamlnpmhpmaaF6
namespace Go.Proofs.Ytljiamlnpmhpmaa.codeJoins
open Go.ChangeShapes Go.WideShapes Go.ChangeAt Go.RowKit
set_option linter.unusedVariables false

theorem own : ownKnob Try.prog.godebug = none := by kernel_rfl
theorem told {rs : List Ev.Row} (h : Ev.ArgsOk Ev.T.L [42, 42] rs) (hs : Ev.szA rs ≤ 2097152) : Ev.Fact Try.prog Ev.T.L Ev.T.F 1 6 (Ev.argAVs Ev.T.L [42, 42] rs) [] [.bool true] [] := by
  match rs, h with
  | [a, b], h =>
    obtain ⟨ha, hb, _⟩ := h
    obtain ⟨ca, ra, ea, pa, wa⟩ := Ev.arg_list (t := 42) (e := 58) (by kernel_rfl) (by kernel_rfl) ha
    obtain ⟨cb, rb, eb, pb, wb⟩ := Ev.arg_list (t := 42) (e := 58) (by kernel_rfl) (by kernel_rfl) hb
    simp only [Ev.argAVs, pa, pb]
    simp only [Ev.szA, ea, eb, Ev.T.szL, Ev.T.sz] at hs
    have hg : Ev.T.g6 ra rb = true := by
      have h1 := Ev.wf_sms _ ra (Nat.lt_succ_self _) wa
      have h2 := Ev.wf_sms _ rb (Nat.lt_succ_self _) wb
      simp only [Ev.T.g6, Ev.T.gC, h1, h2, Bool.and_true, Bool.and_eq_true, Ev.nblt, Ev.T.big]
      omega
    exact Ev.T.told6 1 _ _ _ _ (by simp only [Ev.T.sp6, hg, cond_true])

set_option maxRecDepth 100000 in
theorem lifted (os : Os) (started : os.Started) (H : Type) (enc : TypeId × Value → H) (F0 : Stop.Interp) :
    ReturnsInHanded {} Try.checked os 6 .any ((Rows.OpenSpec.upto Rows.codeJoinsSpec).pre6 enc Try.prog Try.f6 Rows.codeJoinsUptoRow.domain false) (((Rows.OpenSpec.upto Rows.codeJoinsSpec).at F0).post enc Try.prog Try.f6 false true false false) := by
  refine returnsInHanded_of_cond (C := Try.checked) (s := Rows.OpenSpec.upto Rows.codeJoinsSpec) (k := Rows.uptoSmall) rfl own started (by kernel_rfl) Try.func6
    (OpenSpec.witness (enc := enc) (C := Try.checked) (s := Rows.OpenSpec.upto Rows.codeJoinsSpec) (k := Rows.uptoSmall) rfl false ⟨#[], #[.slice none 0 0, .slice none 0 0], []⟩ 8 (by kernel_rfl) (by kernel_rfl) (by kernel_rfl)
      (x := ([.nil, .nil], [], [])) (by kernel_rfl) (by kernel_rfl) (by kernel_rfl)) ?_
  intro W base args ds gs before hval0 hW _ hk _
  have hval : ∀ (j : Nat) t v, Try.f6.params[j]? = some t → args[j]? = some v → Value.okWide Try.prog W .any base t v := hval0
  have hW' := hW
  obtain ⟨p, q, hA0, hV, rfl, hfz, hnd⟩ := hW
  have hA : DataW.TrodAll enc Try.prog W 0 (fun _ => true) true Try.f6.params.toList args.toList ds p := hA0
  have hlt : ∀ x ∈ p ++ q, x.block < W.heap.size := fun x hx => hW'.lt x hx
  obtain ⟨rfl, rfl⟩ := trodVars_none hV
  have hlen := Ev.trodAll_length hA
  have hAk := hA
  rw [Try.params6] at hA hval hlen
  obtain ⟨rs, hr, ho, hs⟩ := Ev.args_open Ev.T.lok Ev.T.tyS_ok (ts := [42, 42]) (by kernel_rfl) (fun j t v a b => hval j t v (by simpa using a) (by simpa using b)) hA
  simp only [List.append_nil, Rows.uptoSmall, decide_eq_true_eq] at hk
  have hc := Ev.fact_true (told ho (by omega)) hr
  match ds, hlen with
  | [d1, d2], _ =>
    refine hc.mono fun e W' ⟨he, hg⟩ => ?_
    subst he
    simp only [List.append_nil] at hW' hlt
    exact ⟨_, rfl, Ev.post_of_below (pv := []) hW' (fun _ _ _ => (trodAll_cons_mk (shut_bool Try.underlying4 _) trodAll_mk0)) (fun sp hsp => Ev.trodAll_stays Ev.T.laid hg (by kernel_rfl) hAk hlt hsp) (fun _ _ => rfl) (by simp)
      hg (ok_one (by kernel_rfl) rfl (okWide_bool_mk Try.underlying4 _))⟩

theorem over : Rows.codeJoinsUptoRow.holds Try.pinned (Rows.OpenSpec.upto Rows.codeJoinsSpec) :=
  OpenClaim.holds_of_cond 6 Try.f6 rfl rfl rfl rfl rfl rfl rfl ⟨rfl, rfl, rfl, rfl, rfl⟩ rfl rfl rfl rfl rfl (by kernel_rfl) Try.func6 (by kernel_rfl)
    (of_decide_eq_true (by kernel_rfl)) (by unfold Func.isWrapper; first | (rw [if_pos (by decide +kernel)]; kernel_rfl) | (rw [if_neg (by decide +kernel)]; exact ⟨rfl, rfl⟩))
    (fun os started H enc _ F0 => lifted os started H enc F0)

theorem proved : Rows.CodeJoinsUptoSaid :=
  over
#print axioms proved
end Go.Proofs.Ytljiamlnpmhpmaa.codeJoins
