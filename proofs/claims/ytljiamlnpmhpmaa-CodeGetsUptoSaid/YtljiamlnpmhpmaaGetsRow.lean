/- CodeGets of postern/posternlaw16 returns true, for every list of names, pair of names and value that it is handed and on every schedule; they read behind the call as they did. Under one condition, the row's own: what is handed in is of bulk at most 1048576. -/
import Derived.Test.YtljiamlnpmhpmaaWf
import Derived.Test.YtljiamlnpmhpmaaF9
namespace Go.Proofs.Ytljiamlnpmhpmaa.codeGets
open Go.ChangeShapes Go.WideShapes Go.ChangeAt Go.RowKit
set_option linter.unusedVariables false

theorem own : ownKnob Try.prog.godebug = none := by kernel_rfl
theorem told {rs : List Ev.Row} (h : Ev.ArgsOk Ev.T.L [22, 70, 34] rs) (hs : Ev.szA rs ≤ 2097152) : Ev.Fact Try.prog Ev.T.L Ev.T.F 1 9 (Ev.argAVs Ev.T.L [22, 70, 34] rs) [] [.bool true] [] := by
  match rs, h with
  | [a, b, c], h =>
    obtain ⟨ha, hb, hc, _⟩ := h
    obtain ⟨ca, ra, ea, pa, wa, na⟩ := Ev.arg_listN (t := 22) (e := 73) (by kernel_rfl) (by kernel_rfl) ha
    have lb : (Ev.ly Ev.T.L 70).cells = [.str, .str] := by kernel_rfl
    have lc : (Ev.ly Ev.T.L 34).cells = [.int .u8, .int .i64, .str, .sl 34, .int .i64] := by kernel_rfl
    have kb : (Ev.ly Ev.T.L 70).k.agg = true := by kernel_rfl
    have kc : (Ev.ly Ev.T.L 34).k.agg = true := by kernel_rfl
    have hb1 := hb.1
    have hc1 := hc.1
    rw [lb] at hb1
    rw [lc] at hc1
    match b, Ev.exRow_len hb1, c, Ev.exRow_len hc1 with
    | [b1, b2], _, [c1, c2, c3, c4, c5], _ =>
      simp only [Ev.exRow, Bool.and_true, Bool.and_eq_true] at hb1 hc1
      obtain ⟨s, rfl⟩ := Ev.ex_str hb1.1
      obtain ⟨o, rfl⟩ := Ev.ex_str hb1.2
      obtain ⟨k, rfl⟩ := Ev.ex_int hc1.1
      obtain ⟨n, rfl⟩ := Ev.ex_int hc1.2.1
      obtain ⟨t, rfl⟩ := Ev.ex_str hc1.2.2.1
      obtain ⟨vc, vl, rfl⟩ := Ev.ex_sl hc1.2.2.2.1
      obtain ⟨r, rfl⟩ := Ev.ex_int hc1.2.2.2.2
      have pb : ∀ x, Ev.packed (Ev.ly Ev.T.L 70) x = .agg x := fun x => by unfold Ev.packed; rw [kb]; rfl
      have pc : ∀ x, Ev.packed (Ev.ly Ev.T.L 34) x = .agg x := fun x => by unfold Ev.packed; rw [kc]; rfl
      simp only [Ev.argAVs, pa, pb, pc]
      simp only [Ev.szA, ea, Ev.T.szL, Ev.T.sz] at hs
      have hg : Ev.T.g9 ra ca s o t vl = true := by
        simp only [Ev.T.g9, na, Bool.and_true, Ev.nblt]
        omega
      exact Ev.T.told9 _ _ _ _ (by simp only [Ev.T.sp9, hg, cond_true])

set_option maxRecDepth 100000 in
theorem lifted (os : Os) (started : os.Started) (H : Type) (enc : TypeId × Value → H) (F0 : Stop.Interp) :
    ReturnsInHanded {} Try.checked os 9 .any ((Rows.OpenSpec.upto Rows.codeGetsSpec).pre6 enc Try.prog Try.f9 Rows.codeGetsUptoRow.domain false) (((Rows.OpenSpec.upto Rows.codeGetsSpec).at F0).post enc Try.prog Try.f9 false true false false) := by
  refine returnsInHanded_of_cond (C := Try.checked) (s := Rows.OpenSpec.upto Rows.codeGetsSpec) (k := Rows.uptoSmall) rfl own started (by kernel_rfl) Try.func9
    (OpenSpec.witness (enc := enc) (C := Try.checked) (s := Rows.OpenSpec.upto Rows.codeGetsSpec) (k := Rows.uptoSmall) rfl false ⟨#[], #[.slice none 0 0, .agg #[.string ⟨#[]⟩, .string ⟨#[]⟩], .agg #[.int .u8 0, .int .i64 0, .string ⟨#[]⟩, .slice none 0 0, .int .i64 0]], []⟩ 8 (by kernel_rfl) (by kernel_rfl) (by kernel_rfl)
      (x := ([.nil, .agg [.lit (.string []), .lit (.string [])], .agg [.lit (.int .u8 0), .lit (.int .i64 0), .lit (.string []), .nil, .lit (.int .i64 0)]], [], [])) (by kernel_rfl) (by kernel_rfl) (by kernel_rfl)) ?_
  intro W base args ds gs before hval0 hW _ hk _
  have hval : ∀ (j : Nat) t v, Try.f9.params[j]? = some t → args[j]? = some v → Value.okWide Try.prog W .any base t v := hval0
  have hW' := hW
  obtain ⟨p, q, hA0, hV, rfl, hfz, hnd⟩ := hW
  have hA : DataW.TrodAll enc Try.prog W 0 (fun _ => true) true Try.f9.params.toList args.toList ds p := hA0
  have hlt : ∀ x ∈ p ++ q, x.block < W.heap.size := fun x hx => hW'.lt x hx
  obtain ⟨rfl, rfl⟩ := trodVars_none hV
  have hlen := Ev.trodAll_length hA
  have hAk := hA
  rw [Try.params9] at hA hval hlen
  obtain ⟨rs, hr, ho, hs⟩ := Ev.args_open Ev.T.lok Ev.T.tyS_ok (ts := [22, 70, 34]) (by kernel_rfl) (fun j t v a b => hval j t v (by simpa using a) (by simpa using b)) hA
  simp only [List.append_nil, Rows.uptoSmall, decide_eq_true_eq] at hk
  have hc := Ev.fact_true (told ho (by omega)) hr
  match ds, hlen with
  | [d1, d2, d3], _ =>
    refine hc.mono fun e W' ⟨he, hg⟩ => ?_
    subst he
    simp only [List.append_nil] at hW' hlt
    exact ⟨_, rfl, Ev.post_of_below (pv := []) hW' (fun _ _ _ => (trodAll_cons_mk (shut_bool Try.underlying4 _) trodAll_mk0)) (fun sp hsp => Ev.trodAll_stays Ev.T.laid hg (by kernel_rfl) hAk hlt hsp) (fun _ _ => rfl) (by simp)
      hg (ok_one (by kernel_rfl) rfl (okWide_bool_mk Try.underlying4 _))⟩

theorem over : Rows.codeGetsUptoRow.holds Try.pinned (Rows.OpenSpec.upto Rows.codeGetsSpec) :=
  OpenClaim.holds_of_cond 9 Try.f9 rfl rfl rfl rfl rfl rfl rfl ⟨rfl, rfl, rfl, rfl, rfl⟩ rfl rfl rfl rfl rfl (by kernel_rfl) Try.func9 (by kernel_rfl)
    (of_decide_eq_true (by kernel_rfl)) (by unfold Func.isWrapper; first | (rw [if_pos (by decide +kernel)]; kernel_rfl) | (rw [if_neg (by decide +kernel)]; exact ⟨rfl, rfl⟩))
    (fun os started H enc _ F0 => lifted os started H enc F0)

theorem proved : Rows.CodeGetsUptoSaid :=
  over
#print axioms proved
end Go.Proofs.Ytljiamlnpmhpmaa.codeGets
