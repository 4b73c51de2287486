/- ChecksFree: which guards facts make needless, as the document has it; for every layout, code, facts and size, of bulk at most 1048576 together. -/
import Derived.Test.YtilanageangegaaF6
set_option linter.unusedVariables false
namespace Go.Proofs.Ytilanageangegaa
open Go.ChangeShapes Go.WideShapes Go.ChangeAt Go.RowKit Go.Ab

set_option maxRecDepth 100000 in
theorem ChecksFree_contract (H : Type) (enc : TypeId × Value → H) (W : World) (base : Nat) (args : Array Value) (ds gs : List (DataW H)) (before : List MemPlace)
    (hval : ∀ (j : Nat) t v, Try.f4.params[j]? = some t → args[j]? = some v → Value.okWide Try.prog W .any base t v)
    (hW : DataW.Whole enc Try.prog Try.f4.params.toList Rows.checksFreeSpec.vars false W args.toList ds gs before) (hk : Rows.uptoSmall H (ds ++ gs) = true) :
    Calls Try.prog 4 args W fun e W' => ∃ v, e = .returned v ∧ Rows.checksFreeSpec.post enc Try.prog Try.f4 false true false false W args v W' := by
  have hW' := hW
  obtain ⟨p, q, hA0, hV, rfl, hfz, hnd⟩ := hW
  have hA : DataW.TrodAll enc Try.prog W 0 (fun _ => true) true Try.f4.params.toList args.toList ds p := hA0
  rw [Try.params4] at hA hval
  obtain ⟨v0, vs0, d0, ds0, p0, q0, hargs, rfl, rfl, k0, r0⟩ := trodAll_cons hA
  obtain ⟨v1, vs1, d1, ds1, p1, q1, rfl, rfl, rfl, k1, r1⟩ := trodAll_cons r0
  obtain ⟨v2, vs2, d2, ds2, p2, q2, rfl, rfl, rfl, k2, r2⟩ := trodAll_cons r1
  obtain ⟨v3, vs3, d3, ds3, p3, q3, rfl, rfl, rfl, k3, r3⟩ := trodAll_cons r2
  obtain ⟨rfl, rfl, rfl⟩ := trodAll_nil r3
  obtain rfl : args = #[v0, v1, v2, v3] := by cases args; simp_all
  obtain ⟨rfl, rfl⟩ := trodVars_none hV
  obtain ⟨l, hl, hlm⟩ := arg_agg rd_lay (ok_agg Try.underlying26 (hval 0 26 v0 rfl rfl)) k0
  obtain ⟨f, hf, hfm⟩ := arg_agg rd_ir (ok_agg Try.underlying29 (hval 1 29 v1 rfl rfl)) k1
  obtain ⟨a2, len2, cap2, rfl⟩ := okWide_slice Try.underlying30 (hval 2 30 v2 rfl rfl)
  obtain ⟨facts, ha, ham⟩ := arg_one rd_facts rfl k2
  obtain ⟨size, rfl, hd3, hp3, _⟩ := open_int Try.underlying3 (hval 3 3 v3 rfl rfl) k3
  have hsz : VR W h00 (eI size) (.int .i64 size) := .v _
  have hb : Rows.uptoBulkAll [d0, d1, d2, d3] ≤ 1048576 := by
    simp only [List.append_nil] at hk
    unfold Rows.uptoSmall at hk
    simpa only [decide_eq_true_eq] using hk
  simp only [Rows.uptoBulkAll] at hb
  have e0 : bulk d0 = Rows.uptoBulk d0 := rfl
  have e1 : bulk d1 = Rows.uptoBulk d1 := rfl
  have e2 : bulk d2 = Rows.uptoBulk d2 := rfl
  have s := ChecksFree_spec l f facts size h00 (fun p hp => (hfm.2 p hp).sz (by omega)) (by omega) (by omega)
  refine (s.calls W #[v0, v1, .slice a2 len2 cap2, .int .i64 size] (h00_ok W) rfl (fun i h1 h2 => by
    match i, h1, h2 with
    | 0, _, _ => exact hl
    | 1, _, _ => exact hf
    | 2, _, _ => exact ha
    | 3, _, _ => exact hsz)).mono fun e W' hq => ?_
  obtain ⟨v, x, h', rfl, hv, _, hev, rfl, rfl⟩ := hq
  have hvb : v = .bool true := hv.inv_v
  subst hvb
  have bel := Ev.below hev
  exact ⟨_, rfl, _, _, _, [], _, [], hW', trodAll_mk1 (shut_bool Try.underlying4 _), trodAll_cons_mk (Below.trod laid_out (by kernel_rfl) (of_decide_eq_true (by kernel_rfl)) k0 bel (trod_less k0)) (trodAll_cons_mk (Below.trod laid_out (by kernel_rfl) (of_decide_eq_true (by kernel_rfl)) k1 bel (trod_less k1)) (trodAll_cons_mk (Below.trod laid_out (by kernel_rfl) (of_decide_eq_true (by kernel_rfl)) k2 bel (trod_less k2)) (trodAll_cons_mk (Below.trod laid_out (by kernel_rfl) (of_decide_eq_true (by kernel_rfl)) k3 bel (trod_less k3)) trodAll_mk0))), rfl, bel.frame _, fun h => by cases h⟩

set_option maxRecDepth 100000 in
theorem ChecksFree_lifted (os : Os) (started : os.Started) (H : Type) (enc : TypeId × Value → H) (F : Stop.Interp) :
    ReturnsInHanded {} Try.checked os 4 .any ((Rows.OpenSpec.upto Rows.checksFreeSpec).pre6 enc Try.prog Try.f4 Rows.checksFreeUptoRow.domain false) (((Rows.OpenSpec.upto Rows.checksFreeSpec).at F).post enc Try.prog Try.f4 false true false false) := by
  refine returnsInHanded_of_cond (C := Try.checked) (s := Rows.OpenSpec.upto Rows.checksFreeSpec) (k := Rows.uptoSmall) rfl own_knob started (by kernel_rfl) Try.func4
    (OpenSpec.witness (enc := enc) (C := Try.checked) (s := Rows.OpenSpec.upto Rows.checksFreeSpec) (k := Rows.uptoSmall) rfl false ⟨#[], #[.agg #[.int .i64 0, .bool false, .slice none 0 0], .agg #[.slice none 0 0, .int .i64 0], .slice none 0 0, .int .i64 0], []⟩ 8 (by kernel_rfl) (by kernel_rfl) (by kernel_rfl)
      (x := ([.agg [.agg [.lit (.int .i64 0), .lit (.bool false)], .nil], .agg [.nil, .lit (.int .i64 0)], .nil, .lit (.int .i64 0)], [], [])) (by kernel_rfl) rfl (by kernel_rfl)) ?_
  intro W base args ds gs before hval hW _ hk _
  exact ChecksFree_contract H enc W base args ds gs before hval hW hk

set_option maxRecDepth 100000 in
theorem checksFree_holds : Rows.ChecksFreeUptoSaid :=
  OpenClaim.holds_of_cond 4 Try.f4 rfl rfl rfl rfl rfl rfl rfl ⟨rfl, rfl, rfl, rfl, rfl⟩ rfl rfl rfl rfl rfl (by kernel_rfl) Try.func4 (by kernel_rfl)
    (of_decide_eq_true (by kernel_rfl)) (by unfold Func.isWrapper; first | (rw [if_pos (by decide +kernel)]; kernel_rfl) | (rw [if_neg (by decide +kernel)]; exact ⟨rfl, rfl⟩))
    (fun os started H enc _ F => ChecksFree_lifted os started H enc F)
#print axioms checksFree_holds
end Go.Proofs.Ytilanageangegaa
