/- ChecksNone: without facts nothing changes, and facts say nothing of what has no guard; for every layout, code and facts, right or not, of bulk at most 1048576 together. -/
import Derived.Test.YtilanageangegaaK6
import Derived.ProofKit
import Derived.OpenShut
import Derived.JoinedCond
set_option linter.unusedVariables false
namespace Go.Proofs.Ytilanageangegaa
open Go.ChangeShapes Go.WideShapes Go.ChangeAt Go.RowKit Go.Ab

set_option maxRecDepth 100000 in
theorem own_knob : ownKnob Try.prog.godebug = none := by kernel_rfl
set_option maxRecDepth 100000 in
theorem laid_out : laidOutB Try.prog = true := by kernel_rfl
theorem ok_agg {P : Program} {W : World} {r : Reach} {base : Nat} {t : TypeId} {v : Value} {fs : Array Field} (ht : P.underlying t = some (.struct fs)) (h : Value.okWide P W r base t v) : ∃ cs, v = .agg cs := by
  unfold Value.okWide at h
  rw [ht] at h
  obtain ⟨cs, e, _⟩ := h
  exact ⟨cs, e⟩
theorem Ev.below {W W' : World} (e : Ev h00 W h00 W') : Below W.heap.size W W' := ⟨e.os, e.tape, e.output, e.size, fun k hk => (e.old k hk rfl).2⟩
theorem trod_less {H : Type} {enc : TypeId × Value → H} {W : World} {t : TypeId} {v : Value} {d : DataW H} {p : List MemPlace} (h : DataW.Trod enc Try.prog W 0 (fun _ => true) true t v d p) : ∀ x ∈ p, x.block < W.heap.size := by
  obtain ⟨m, hm⟩ := h
  exact DataW.trod_lt m _ _ _ hm

set_option maxRecDepth 100000 in
theorem ChecksNone_contract (H : Type) (enc : TypeId × Value → H) (W : World) (base : Nat) (args : Array Value) (ds gs : List (DataW H)) (before : List MemPlace)
    (hval : ∀ (j : Nat) t v, Try.f3.params[j]? = some t → args[j]? = some v → Value.okWide Try.prog W .any base t v)
    (hW : DataW.Whole enc Try.prog Try.f3.params.toList Rows.checksNoneSpec.vars false W args.toList ds gs before) (hk : Rows.uptoSmall H (ds ++ gs) = true) :
    Calls Try.prog 3 args W fun e W' => ∃ v, e = .returned v ∧ Rows.checksNoneSpec.post enc Try.prog Try.f3 false true false false W args v W' := by
  have hW' := hW
  obtain ⟨p, q, hA0, hV, rfl, hfz, hnd⟩ := hW
  have hA : DataW.TrodAll enc Try.prog W 0 (fun _ => true) true Try.f3.params.toList args.toList ds p := hA0
  rw [Try.params3] at hA hval
  obtain ⟨v0, vs0, d0, ds0, p0, q0, hargs, rfl, rfl, k0, r0⟩ := trodAll_cons hA
  obtain ⟨v1, vs1, d1, ds1, p1, q1, rfl, rfl, rfl, k1, r1⟩ := trodAll_cons r0
  obtain ⟨v2, vs2, d2, ds2, p2, q2, rfl, rfl, rfl, k2, r2⟩ := trodAll_cons r1
  obtain ⟨rfl, rfl, rfl⟩ := trodAll_nil r2
  obtain rfl : args = #[v0, v1, v2] := by cases args; simp_all
  obtain ⟨rfl, rfl⟩ := trodVars_none hV
  obtain ⟨l, hl, hlm⟩ := arg_agg rd_lay (ok_agg Try.underlying26 (hval 0 26 v0 rfl rfl)) k0
  obtain ⟨f, hf, hfm⟩ := arg_agg rd_ir (ok_agg Try.underlying29 (hval 1 29 v1 rfl rfl)) k1
  obtain ⟨a2, len2, cap2, rfl⟩ := okWide_slice Try.underlying30 (hval 2 30 v2 rfl rfl)
  obtain ⟨facts, ha, ham⟩ := arg_one rd_facts rfl k2
  have hb : Rows.uptoBulkAll [d0, d1, d2] ≤ 1048576 := by
    simp only [List.append_nil] at hk
    unfold Rows.uptoSmall at hk
    simpa only [decide_eq_true_eq] using hk
  simp only [Rows.uptoBulkAll] at hb
  have e0 : bulk d0 = Rows.uptoBulk d0 := rfl
  have e1 : bulk d1 = Rows.uptoBulk d1 := rfl
  have e2 : bulk d2 = Rows.uptoBulk d2 := rfl
  have s := ChecksNone_spec l f facts h00 (fun p hp => (hfm.2 p hp).sz (by omega)) (by omega) (by omega)
  refine (s.calls W #[v0, v1, .slice a2 len2 cap2] (h00_ok W) rfl (fun i h1 h2 => by
    match i, h1, h2 with
    | 0, _, _ => exact hl
    | 1, _, _ => exact hf
    | 2, _, _ => exact ha)).mono fun e W' hq => ?_
  obtain ⟨v, x, h', rfl, hv, _, hev, rfl, rfl⟩ := hq
  have hvb : v = .bool true := hv.inv_v
  subst hvb
  have bel := Ev.below hev
  exact ⟨_, rfl, _, _, _, [], _, [], hW', trodAll_mk1 (shut_bool Try.underlying4 _), trodAll_cons_mk (Below.trod laid_out (by kernel_rfl) (of_decide_eq_true (by kernel_rfl)) k0 bel (trod_less k0)) (trodAll_cons_mk (Below.trod laid_out (by kernel_rfl) (of_decide_eq_true (by kernel_rfl)) k1 bel (trod_less k1)) (trodAll_cons_mk (Below.trod laid_out (by kernel_rfl) (of_decide_eq_true (by kernel_rfl)) k2 bel (trod_less k2)) trodAll_mk0)), rfl, bel.frame _, fun h => by cases h⟩

set_option maxRecDepth 100000 in
theorem ChecksNone_lifted (os : Os) (started : os.Started) (H : Type) (enc : TypeId × Value → H) (F : Stop.Interp) :
    ReturnsInHanded {} Try.checked os 3 .any ((Rows.OpenSpec.upto Rows.checksNoneSpec).pre6 enc Try.prog Try.f3 Rows.checksNoneUptoRow.domain false) (((Rows.OpenSpec.upto Rows.checksNoneSpec).at F).post enc Try.prog Try.f3 false true false false) := by
  refine returnsInHanded_of_cond (C := Try.checked) (s := Rows.OpenSpec.upto Rows.checksNoneSpec) (k := Rows.uptoSmall) rfl own_knob started (by kernel_rfl) Try.func3
    (OpenSpec.witness (enc := enc) (C := Try.checked) (s := Rows.OpenSpec.upto Rows.checksNoneSpec) (k := Rows.uptoSmall) rfl false ⟨#[], #[.agg #[.int .i64 0, .bool false, .slice none 0 0], .agg #[.slice none 0 0, .int .i64 0], .slice none 0 0], []⟩ 8 (by kernel_rfl) (by kernel_rfl) (by kernel_rfl)
      (x := ([.agg [.agg [.lit (.int .i64 0), .lit (.bool false)], .nil], .agg [.nil, .lit (.int .i64 0)], .nil], [], [])) (by kernel_rfl) rfl (by kernel_rfl)) ?_
  intro W base args ds gs before hval hW _ hk _
  exact ChecksNone_contract H enc W base args ds gs before hval hW hk

set_option maxRecDepth 100000 in
theorem checksNone_holds : Rows.ChecksNoneUptoSaid :=
  OpenClaim.holds_of_cond 3 Try.f3 rfl rfl rfl rfl rfl rfl rfl ⟨rfl, rfl, rfl, rfl, rfl⟩ rfl rfl rfl rfl rfl (by kernel_rfl) Try.func3 (by kernel_rfl)
    (of_decide_eq_true (by kernel_rfl)) (by unfold Func.isWrapper; first | (rw [if_pos (by decide +kernel)]; kernel_rfl) | (rw [if_neg (by decide +kernel)]; exact ⟨rfl, rfl⟩))
    (fun os started H enc _ F => ChecksNone_lifted os started H enc F)
#print axioms checksNone_holds
end Go.Proofs.Ytilanageangegaa
