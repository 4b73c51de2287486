/- Walks and laws for LawFree (6): WEnds, WCheckR, WNone, WFreeR, WFree2, Ab17, WFree4, Rd, RdIr, LawKit. No statement of the seat is proved here. -/
import Derived.Test.YtilanageangegaaF5
import Derived.Test.YtilanageangegaaRows
import Derived.Deep.Slices
import Derived.ChangeArms
import Derived.KernelRfl
import Derived.ProofKit
import Derived.OpenShut
import Derived.JoinedCond

/- Walks of the document's answer for layer 16 (7): ends. -/
set_option linter.unusedVariables false
set_option linter.unusedSimpArgs false
namespace Go.Proofs.Ytilanageangegaa
open Go.Ab

set_option maxRecDepth 10000 in
theorem endsR_spec (f : DIr) (h : AHeap) (z : Sz f) (hne : f.parts ≠ []) : Sp Try.prog 42 [.agg (eIr f), eIss (succL f)] h (fun r h' => (∃ q : Bool, r = eB q ∧ (q = true ↔ waysP f)) ∧ h' = h) := by
  have hz := z.parts
  have hsl := succL_len f
  have hs0 : succL f ≠ [] := fun e => by rw [e] at hsl; exact hne (List.eq_nil_of_length_eq_zero hsl.symm)
  have hn0 : 0 < f.parts.length := List.length_pos_iff.2 hne
  have hno : ¬ waysP f → ∃ q : Bool, AVal.v (.bool false) = eB q ∧ (q = true ↔ waysP f) := fun e => ⟨false, rfl, fun q => (by cases q), fun q => absurd q e⟩
  have hsucc : ∀ {i : Nat} (hi : i < f.parts.length), ((succL f).map eIs)[(i : Int).toNat * 1]? = some (eIs (next f.parts[i].end_)) := fun {i} hi => by
    rw [Int.toNat_natCast, Nat.mul_one, List.getElem?_map, List.getElem?_eq_getElem (by omega)]
    simp [succL]
  refine Sp.of Try.func42 rfl rfl (by show 2 ≤ 145; decide) ?_
  (repeat (first | refine AC.seq ?_ | refine AC.block ?_ | refine AC.skip ?_))
  refine AC.region ?_
  refine AOps.step rfl rfl ?_
  refine AOp.boxL rfl rfl ?_
  refine AOps.step rfl rfl ?_
  refine AOp.of_run (ARun.mvV (.inr rfl) rfl) ?_
  refine AOps.nil ?_
  (repeat (first | refine AC.seq ?_ | refine AC.block ?_ | refine AC.skip ?_))
  refine AC.region ?_
  refine AOps.step rfl rfl ?_
  refine AOp.of_run (ARun.fieldAddrL rfl rfl) ?_
  refine AOps.step rfl rfl ?_
  refine AOp.of_run (ARun.loadL rfl rfl rfl) ?_
  refine AOps.step rfl rfl ?_
  refine AOp.of_run (ARun.lenL rfl rfl) ?_
  refine AOps.step rfl rfl ?_
  refine AOp.of_run (ARun.mvV (.inr rfl) rfl) ?_
  refine AOps.nil ?_
  (repeat (first | refine AC.seq ?_ | refine AC.block ?_ | refine AC.skip ?_))
  refine AC.region ?_
  refine AOps.step rfl rfl ?_
  refine AOp.of_run (ARun.mvV (.inr rfl) rfl) ?_
  refine AOps.nil ?_
  (repeat (first | refine AC.seq ?_ | refine AC.block ?_ | refine AC.skip ?_ | refine AC.exit ?_))
  refine AC.loop (fun m τ h' => ∃ i : Nat, i ≤ f.parts.length ∧ m = f.parts.length - i ∧ Slots τ [(1, eIss (succL f)), (2, .lp (eIr f) 0), (5, eI f.parts.length), (6, eI i)] ∧
    (∀ j (hj : j < f.parts.length), j < i → endOK f.parts[j].end_ = true ∧ ∀ y ∈ next f.parts[j].end_, 0 ≤ y ∧ y < f.parts.length) ∧ h' = h) f.parts.length ?_ ?_
  · exact ⟨0, Nat.zero_le _, rfl, ⟨rfl, rfl, rfl, rfl, trivial⟩, fun j _ hj => by omega, rfl⟩
  rintro m τ h1 ⟨i, hi, rfl, hs, hall, rfl⟩
  obtain ⟨t0, rfl⟩ := hs.open_
  (repeat (first | refine AC.seq ?_ | refine AC.block ?_ | refine AC.skip ?_))
  refine AC.region ?_
  refine AOps.step rfl rfl ?_
  refine AOp.of_run (ARun.mvV (.inl rfl) rfl) ?_
  refine AOps.step rfl rfl ?_
  refine AOp.of_run (ARun.mvV (.inl rfl) rfl) ?_
  refine AOps.step rfl rfl ?_
  refine AOp.of_run (ARun.lss rfl rfl rfl) ?_
  refine AOps.nil ?_
  (repeat (first | refine AC.seq ?_ | refine AC.block ?_ | refine AC.skip ?_)); refine AC.cond rfl (fun hc => ?_) (fun hc => ?_)
  · have hlt : i < f.parts.length := by simpa using hc
    have hrd : rdc (f.parts.flatMap ePart) ((i : Int).toNat * 10 + 3) 7 = some (eTerm f.parts[i].end_) := by rw [Int.toNat_natCast, rdc_flatMap_at ePart_len hlt (by decide)]; rfl
    have hbad : ¬ (endOK f.parts[i].end_ = true ∧ ∀ y ∈ next f.parts[i].end_, 0 ≤ y ∧ y < f.parts.length) → ¬ waysP f := fun e w => e (w.1 _ (List.getElem_mem hlt))
    have hgood : (endOK f.parts[i].end_ = true ∧ ∀ y ∈ next f.parts[i].end_, 0 ≤ y ∧ y < f.parts.length) → ∀ j (hj : j < f.parts.length), j < i + 1 → endOK f.parts[j].end_ = true ∧ ∀ y ∈ next f.parts[j].end_, 0 ≤ y ∧ y < f.parts.length := fun e j hj hji => by
      rcases Nat.lt_or_ge j i with c | c
      · exact hall j hj c
      · obtain rfl : j = i := by omega
        exact e
    have gs := hsucc hlt
    generalize f.parts[i].end_ = E at *
    (repeat (first | refine AC.seq ?_ | refine AC.block ?_ | refine AC.skip ?_ | refine AC.exit ?_))
    (repeat (first | refine AC.seq ?_ | refine AC.block ?_ | refine AC.skip ?_))
    refine AC.region ?_
    refine AOps.step rfl rfl ?_
    refine AOp.of_run (ARun.fieldAddrL rfl rfl) ?_
    refine AOps.step rfl rfl ?_
    refine AOp.of_run (ARun.loadL rfl rfl rfl) ?_
    refine AOps.step rfl rfl ?_
    refine AOp.of_run (ARun.mvV (.inl rfl) rfl) ?_
    refine AOps.step rfl rfl ?_
    refine AOp.of_run (ARun.indexAddrL rfl rfl rfl (by omega) (by omega)) ?_
    refine AOps.step rfl rfl ?_
    refine AOp.of_run (ARun.fieldAddrL rfl rfl) ?_
    refine AOps.step rfl rfl (AOp.of_run (ARun.loadNL rfl rfl hrd) ?_)
    refine AOps.step rfl rfl (AOp.alloc rfl (fun b6 hb6 => ?_))
    refine AOps.step rfl rfl (AOp.store rfl rfl (hset_same _ _ _) rfl ?_)
    refine AOps.nil ?_
    refine AC.le (Le.freezeNew (d := 7) hb6 rfl) ?_
    (repeat (first | refine AC.seq ?_ | refine AC.block ?_ | refine AC.skip ?_))
    refine AC.region ?_
    refine AOps.step rfl rfl ?_
    refine AOp.of_run (ARun.fieldAddrL rfl rfl) ?_
    refine AOps.step rfl rfl ?_
    refine AOp.of_run (ARun.loadL rfl rfl rfl) ?_
    refine AOps.step rfl rfl (AOp.call_ rfl rfl ((CondR0_spec E.cond _).mono ?_))
    rintro _ _ ⟨⟨v, rfl⟩, rfl⟩
    rename_i h1
    refine AOps.step rfl rfl ?_
    refine AOp.of_run (ARun.mvT (.inl rfl) rfl) ?_
    refine AOps.step rfl rfl (AOp.of_run (ARun.extract rfl rfl rfl) ?_)
    refine AOps.step rfl rfl ?_
    refine AOp.of_run (ARun.extract rfl rfl rfl) ?_
    refine AOps.step rfl rfl ?_
    refine AOp.of_run (ARun.assign rfl) ?_
    refine AOps.step rfl rfl ?_
    refine AOp.of_run (ARun.mvV (.inr rfl) rfl) ?_
    refine AOps.nil ?_
    (repeat (first | refine AC.seq ?_ | refine AC.block ?_ | refine AC.skip ?_ | refine AC.exit ?_))
    refine AC.mono (Q := fun ex τ h2 => ex = .normal ∧ h2 = h1 ∧ Slots τ [(1, eIss (succL f)), (2, .lp (eIr f) 0), (5, eI f.parts.length), (6, eI i), (59, eB (!endOK E))]) ?_ ?_
    · unfold endOK
      (repeat (first | refine AC.seq ?_ | refine AC.block ?_ | refine AC.skip ?_))
      refine AC.region ?_
      refine AOps.step rfl rfl ?_
      refine AOp.of_run (ARun.fieldAddrL rfl rfl) ?_
      refine AOps.step rfl rfl ?_
      refine AOp.of_run (ARun.loadL rfl rfl rfl) ?_
      refine AOps.step rfl rfl ?_
      refine AOp.of_run (ARun.lss rfl rfl rfl) ?_
      rw [dec_lt E.op 1]
      cases g1 : decide (1 ≤ E.op)
      · refine AOps.step rfl rfl ?_
        refine AOp.of_run (ARun.mvV (.inl rfl) rfl) ?_
        refine AOps.passU rfl rfl (by decide) rfl rfl rfl ?_
        refine AOps.passU rfl rfl (by decide) rfl rfl rfl ?_
        refine AOps.passU rfl rfl (by decide) rfl rfl rfl ?_
        refine AOps.step rfl rfl (AOp.of_run (ARun.pickT rfl rfl) ?_)
        refine AOps.step rfl rfl ?_
        refine AOp.of_run (ARun.mvV (.inl rfl) rfl) ?_
        refine AOps.passU rfl rfl (by decide) rfl rfl rfl ?_
        refine AOps.passU rfl rfl (by decide) rfl rfl rfl ?_
        refine AOps.passU rfl rfl (by decide) rfl rfl rfl ?_
        refine AOps.passU rfl rfl (by decide) rfl rfl rfl ?_
        refine AOps.passU rfl rfl (by decide) rfl rfl rfl ?_
        refine AOps.passU rfl rfl (by decide) rfl rfl rfl ?_
        refine AOps.passU rfl rfl (by decide) rfl rfl rfl ?_
        refine AOps.passU rfl rfl (by decide) rfl rfl rfl ?_
        refine AOps.passU rfl rfl (by decide) rfl rfl rfl ?_
        refine AOps.passU rfl rfl (by decide) rfl rfl rfl ?_
        refine AOps.passU rfl rfl (by decide) rfl rfl rfl ?_
        refine AOps.passU rfl rfl (by decide) rfl rfl rfl ?_
        refine AOps.passU rfl rfl (by decide) rfl rfl rfl ?_
        refine AOps.passU rfl rfl (by decide) rfl rfl rfl ?_
        refine AOps.step rfl rfl (AOp.of_run (ARun.pickT rfl rfl) ?_)
        refine AOps.nil ?_
        exact ⟨rfl, rfl, rfl, rfl, rfl, rfl, rfl, trivial⟩
      refine AOps.step rfl rfl ?_
      refine AOp.of_run (ARun.mvV (.inl rfl) rfl) ?_
      refine AOps.want rfl rfl (by decide) rfl ?_
      refine AOps.step rfl rfl ?_
      refine AOp.of_run (ARun.fieldAddrL rfl rfl) ?_
      refine AOps.want rfl rfl (by decide) rfl ?_
      refine AOps.step rfl rfl ?_
      refine AOp.of_run (ARun.loadL rfl rfl rfl) ?_
      refine AOps.want rfl rfl (by decide) rfl ?_
      refine AOps.step rfl rfl ?_
      refine AOp.of_run (ARun.gtr rfl rfl rfl) ?_
      rw [dec_lt 3 E.op]
      cases g2 : decide (E.op ≤ 3)
      · refine AOps.step rfl rfl (AOp.of_run (ARun.pickF rfl rfl) ?_)
        refine AOps.step rfl rfl ?_
        refine AOp.of_run (ARun.mvV (.inl rfl) rfl) ?_
        refine AOps.passU rfl rfl (by decide) rfl rfl rfl ?_
        refine AOps.passU rfl rfl (by decide) rfl rfl rfl ?_
        refine AOps.passU rfl rfl (by decide) rfl rfl rfl ?_
        refine AOps.passU rfl rfl (by decide) rfl rfl rfl ?_
        refine AOps.passU rfl rfl (by decide) rfl rfl rfl ?_
        refine AOps.passU rfl rfl (by decide) rfl rfl rfl ?_
        refine AOps.passU rfl rfl (by decide) rfl rfl rfl ?_
        refine AOps.passU rfl rfl (by decide) rfl rfl rfl ?_
        refine AOps.passU rfl rfl (by decide) rfl rfl rfl ?_
        refine AOps.passU rfl rfl (by decide) rfl rfl rfl ?_
        refine AOps.passU rfl rfl (by decide) rfl rfl rfl ?_
        refine AOps.passU rfl rfl (by decide) rfl rfl rfl ?_
        refine AOps.passU rfl rfl (by decide) rfl rfl rfl ?_
        refine AOps.passU rfl rfl (by decide) rfl rfl rfl ?_
        refine AOps.step rfl rfl (AOp.of_run (ARun.pickT rfl rfl) ?_)
        refine AOps.nil ?_
        exact ⟨rfl, rfl, rfl, rfl, rfl, rfl, rfl, trivial⟩
      refine AOps.step rfl rfl (AOp.of_run (ARun.pickF rfl rfl) ?_)
      refine AOps.step rfl rfl ?_
      refine AOp.of_run (ARun.mvV (.inl rfl) rfl) ?_
      refine AOps.want rfl rfl (by decide) rfl ?_
      refine AOps.step rfl rfl ?_
      refine AOp.of_run (ARun.fieldAddrL rfl rfl) ?_
      refine AOps.want rfl rfl (by decide) rfl ?_
      refine AOps.step rfl rfl ?_
      refine AOp.of_run (ARun.loadL rfl rfl rfl) ?_
      refine AOps.want rfl rfl (by decide) rfl ?_
      refine AOps.step rfl rfl ?_
      refine AOp.of_run (ARun.eql rfl rfl rfl) ?_
      cases g3 : decide (E.op = 2)
      · refine AOps.want rfl rfl (by decide) rfl ?_
        refine AOps.step rfl rfl ?_
        refine AOp.of_run (ARun.mvV (.inl rfl) rfl) ?_
        refine AOps.passU rfl rfl (by decide) rfl rfl rfl ?_
        refine AOps.passU rfl rfl (by decide) rfl rfl rfl ?_
        refine AOps.passU rfl rfl (by decide) rfl rfl rfl ?_
        refine AOps.passU rfl rfl (by decide) rfl rfl rfl ?_
        refine AOps.passU rfl rfl (by decide) rfl rfl rfl ?_
        refine AOps.passU rfl rfl (by decide) rfl rfl rfl ?_
        refine AOps.passU rfl rfl (by decide) rfl rfl rfl ?_
        refine AOps.passU rfl rfl (by decide) rfl rfl rfl ?_
        refine AOps.passU rfl rfl (by decide) rfl rfl rfl ?_
        refine AOps.want rfl rfl (by decide) rfl ?_
        refine AOps.step rfl rfl (AOp.of_run (ARun.pickF rfl rfl) ?_)
        refine AOps.step rfl rfl (AOp.of_run (ARun.pickF rfl rfl) ?_)
        refine AOps.nil ?_
        exact ⟨rfl, rfl, rfl, rfl, rfl, rfl, rfl, trivial⟩
      cases g4 : condB E.cond
      · refine AOps.want rfl rfl (by decide) rfl ?_
        refine AOps.step rfl rfl ?_
        refine AOp.of_run (ARun.mvV (.inl rfl) rfl) ?_
        refine AOps.want rfl rfl (by decide) rfl ?_
        refine AOps.step rfl rfl ?_
        refine AOp.of_run (ARun.mvV (.inl rfl) rfl) ?_
        refine AOps.want rfl rfl (by decide) rfl ?_
        refine AOps.step rfl rfl ?_
        refine AOp.of_run (ARun.not rfl rfl) ?_
        refine AOps.want rfl rfl (by decide) rfl ?_
        refine AOps.step rfl rfl ?_
        refine AOp.of_run (ARun.mvV (.inl rfl) rfl) ?_
        refine AOps.passU rfl rfl (by decide) rfl rfl rfl ?_
        refine AOps.passU rfl rfl (by decide) rfl rfl rfl ?_
        refine AOps.passU rfl rfl (by decide) rfl rfl rfl ?_
        refine AOps.passU rfl rfl (by decide) rfl rfl rfl ?_
        refine AOps.passU rfl rfl (by decide) rfl rfl rfl ?_
        refine AOps.want rfl rfl (by decide) rfl ?_
        refine AOps.step rfl rfl (AOp.of_run (ARun.pickT rfl rfl) ?_)
        refine AOps.want rfl rfl (by decide) rfl ?_
        refine AOps.step rfl rfl (AOp.of_run (ARun.pickT rfl rfl) ?_)
        refine AOps.step rfl rfl (AOp.of_run (ARun.pickF rfl rfl) ?_)
        refine AOps.nil ?_
        exact ⟨rfl, rfl, rfl, rfl, rfl, rfl, rfl, trivial⟩
      refine AOps.want rfl rfl (by decide) rfl ?_
      refine AOps.step rfl rfl ?_
      refine AOp.of_run (ARun.mvV (.inl rfl) rfl) ?_
      refine AOps.want rfl rfl (by decide) rfl ?_
      refine AOps.step rfl rfl ?_
      refine AOp.of_run (ARun.mvV (.inl rfl) rfl) ?_
      refine AOps.want rfl rfl (by decide) rfl ?_
      refine AOps.step rfl rfl ?_
      refine AOp.of_run (ARun.not rfl rfl) ?_
      refine AOps.want rfl rfl (by decide) rfl ?_
      refine AOps.step rfl rfl ?_
      refine AOp.of_run (ARun.mvV (.inl rfl) rfl) ?_
      refine AOps.want rfl rfl (by decide) rfl ?_
      refine AOps.step rfl rfl ?_
      refine AOp.of_run (ARun.fieldAddrL rfl rfl) ?_
      refine AOps.want rfl rfl (by decide) rfl ?_
      refine AOps.step rfl rfl ?_
      refine AOp.of_run (ARun.loadL rfl rfl rfl) ?_
      refine AOps.want rfl rfl (by decide) rfl ?_
      refine AOps.step rfl rfl ?_
      refine AOp.of_run (ARun.fieldAddrL rfl rfl) ?_
      refine AOps.want rfl rfl (by decide) rfl ?_
      refine AOps.step rfl rfl ?_
      refine AOp.of_run (ARun.loadL rfl rfl rfl) ?_
      refine AOps.want rfl rfl (by decide) rfl ?_
      refine AOps.step rfl rfl ?_
      refine AOp.of_run (ARun.eql rfl rfl rfl) ?_
      cases g5 : decide (E.to = E.els)
      · refine AOps.want rfl rfl (by decide) rfl ?_
        refine AOps.step rfl rfl (AOp.of_run (ARun.pickF rfl rfl) ?_)
        refine AOps.want rfl rfl (by decide) rfl ?_
        refine AOps.step rfl rfl (AOp.of_run (ARun.pickT rfl rfl) ?_)
        refine AOps.step rfl rfl (AOp.of_run (ARun.pickF rfl rfl) ?_)
        refine AOps.nil ?_
        exact ⟨rfl, rfl, rfl, rfl, rfl, rfl, rfl, trivial⟩
      · refine AOps.want rfl rfl (by decide) rfl ?_
        refine AOps.step rfl rfl (AOp.of_run (ARun.pickF rfl rfl) ?_)
        refine AOps.want rfl rfl (by decide) rfl ?_
        refine AOps.step rfl rfl (AOp.of_run (ARun.pickT rfl rfl) ?_)
        refine AOps.step rfl rfl (AOp.of_run (ARun.pickF rfl rfl) ?_)
        refine AOps.nil ?_
        exact ⟨rfl, rfl, rfl, rfl, rfl, rfl, rfl, trivial⟩
    rintro _ τ _ ⟨rfl, rfl, hs⟩
    obtain ⟨t1, rfl⟩ := hs.open_
    (repeat (first | refine AC.seq ?_ | refine AC.block ?_ | refine AC.skip ?_)); refine AC.cond rfl (fun hc => ?_) (fun hc => ?_)
    · (repeat (first | refine AC.seq ?_ | refine AC.block ?_ | refine AC.skip ?_))
      refine AC.region ?_
      refine AOps.step rfl rfl ?_
      refine AOp.of_run (ARun.mvV (.inr rfl) rfl) ?_
      refine AOps.nil ?_
      refine AC.ret (ARes.one rfl (RV.V rfl) ⟨hno (hbad fun e => ?_), rfl⟩)
      rw [e.1] at hc; cases hc
    have hok : endOK E = true := by simpa using hc
    have hR2 := next_len E
    generalize next E = R at *
    (repeat (first | refine AC.seq ?_ | refine AC.block ?_ | refine AC.skip ?_ | refine AC.exit ?_))
    (repeat (first | refine AC.seq ?_ | refine AC.block ?_ | refine AC.skip ?_))
    refine AC.region ?_
    refine AOps.step rfl rfl ?_
    refine AOp.of_run (ARun.mvV (.inr rfl) rfl) ?_
    refine AOps.nil ?_
    (repeat (first | refine AC.seq ?_ | refine AC.block ?_ | refine AC.skip ?_ | refine AC.exit ?_))
    rename_i h1
    refine AC.loop (fun m τ h' => ∃ j : Nat, j ≤ R.length ∧ m = R.length - j ∧ Slots τ [(1, eIss (succL f)), (2, .lp (eIr f) 0), (5, eI f.parts.length), (6, eI i), (10, eI j)] ∧ (∀ y ∈ R.take j, 0 ≤ y ∧ y < f.parts.length) ∧ h' = h1) R.length ?_ ?_
    · exact ⟨0, Nat.zero_le _, rfl, ⟨rfl, rfl, rfl, rfl, rfl, trivial⟩, fun y hy => by simp at hy, rfl⟩
    rintro m τ h2 ⟨j, hj, rfl, hs, hin, rfl⟩
    obtain ⟨t2, rfl⟩ := hs.open_
    (repeat (first | refine AC.seq ?_ | refine AC.block ?_ | refine AC.skip ?_))
    refine AC.region ?_
    refine AOps.step rfl rfl ?_
    refine AOp.of_run (ARun.mvV (.inl rfl) rfl) ?_
    refine AOps.step rfl rfl ?_
    refine AOp.of_run (ARun.mvL (.inl rfl) rfl) ?_
    refine AOps.step rfl rfl ?_
    refine AOp.of_run (ARun.mvV (.inl rfl) rfl) ?_
    refine AOps.step rfl rfl ?_
    refine AOp.of_run (ARun.indexAddrL rfl rfl rfl (by omega) (by omega)) ?_
    refine AOps.step rfl rfl (AOp.of_run (ARun.loadL rfl rfl gs) ?_)
    refine AOps.step rfl rfl ?_
    refine AOp.of_run (ARun.lenL rfl rfl) ?_
    refine AOps.step rfl rfl ?_
    refine AOp.of_run (ARun.lss rfl rfl rfl) ?_
    refine AOps.nil ?_
    (repeat (first | refine AC.seq ?_ | refine AC.block ?_ | refine AC.skip ?_)); refine AC.cond rfl (fun hc => ?_) (fun hc => ?_)
    · have hlt2 : j < R.length := by simpa using hc
      have hbad2 : ¬ (0 ≤ R[j] ∧ R[j] < f.parts.length) → ¬ waysP f := fun e => hbad fun g => e (g.2 _ (List.getElem_mem hlt2))
      have hin2 : (0 ≤ R[j] ∧ R[j] < f.parts.length) → ∀ y ∈ R.take (j + 1), 0 ≤ y ∧ y < f.parts.length := fun e y hy => by
        rcases (take_succ_mem hlt2 y).1 hy with c | c
        · exact hin y c
        · rw [c]; exact e
      have g1 : (R.map eI)[(j : Int).toNat * 1]? = some (eI R[j]) := get_map hlt2
      generalize R[j] = to at *
      rename_i h2
      (repeat (first | refine AC.seq ?_ | refine AC.block ?_ | refine AC.skip ?_ | refine AC.exit ?_))
      refine AC.mono (Q := fun ex τ h3 => ex = .normal ∧ h3 = h2 ∧ Slots τ [(1, eIss (succL f)), (2, .lp (eIr f) 0), (5, eI f.parts.length), (6, eI i), (10, eI j), (87, eB (!(decide (0 ≤ to) && decide (to < f.parts.length))))]) ?_ ?_
      · (repeat (first | refine AC.seq ?_ | refine AC.block ?_ | refine AC.skip ?_))
        refine AC.region ?_
        refine AOps.step rfl rfl ?_
        refine AOp.of_run (ARun.mvL (.inl rfl) rfl) ?_
        refine AOps.step rfl rfl ?_
        refine AOp.of_run (ARun.mvV (.inl rfl) rfl) ?_
        refine AOps.step rfl rfl ?_
        refine AOp.of_run (ARun.indexAddrL rfl rfl rfl (by omega) (by omega)) ?_
        refine AOps.step rfl rfl (AOp.of_run (ARun.loadL rfl rfl gs) ?_)
        refine AOps.step rfl rfl ?_
        refine AOp.of_run (ARun.mvV (.inl rfl) rfl) ?_
        refine AOps.step rfl rfl ?_
        refine AOp.of_run (ARun.indexAddrL rfl rfl rfl (by omega) (by omega)) ?_
        refine AOps.step rfl rfl (AOp.of_run (ARun.loadL rfl rfl g1) ?_)
        refine AOps.step rfl rfl ?_
        refine AOp.of_run (ARun.lss rfl rfl rfl) ?_
        rw [dec_lt to 0]
        cases g1 : decide (0 ≤ to)
        · refine AOps.step rfl rfl ?_
          refine AOp.of_run (ARun.mvV (.inl rfl) rfl) ?_
          refine AOps.passU rfl rfl (by decide) rfl rfl rfl ?_
          refine AOps.passU rfl rfl (by decide) rfl rfl rfl ?_
          refine AOps.passU rfl rfl (by decide) rfl rfl rfl ?_
          refine AOps.passU rfl rfl (by decide) rfl rfl rfl ?_
          refine AOps.passU rfl rfl (by decide) rfl rfl rfl ?_
          refine AOps.passU rfl rfl (by decide) rfl rfl rfl ?_
          refine AOps.passU rfl rfl (by decide) rfl rfl rfl ?_
          refine AOps.passU rfl rfl (by decide) rfl rfl rfl ?_
          refine AOps.passU rfl rfl (by decide) rfl rfl rfl ?_
          refine AOps.step rfl rfl (AOp.of_run (ARun.pickT rfl rfl) ?_)
          refine AOps.nil ?_
          exact ⟨rfl, rfl, rfl, rfl, rfl, rfl, rfl, rfl, trivial⟩
        · refine AOps.step rfl rfl ?_
          refine AOp.of_run (ARun.mvV (.inl rfl) rfl) ?_
          refine AOps.want rfl rfl (by decide) rfl ?_
          refine AOps.step rfl rfl ?_
          refine AOp.of_run (ARun.mvL (.inl rfl) rfl) ?_
          refine AOps.want rfl rfl (by decide) rfl ?_
          refine AOps.step rfl rfl ?_
          refine AOp.of_run (ARun.mvV (.inl rfl) rfl) ?_
          refine AOps.want rfl rfl (by decide) rfl ?_
          refine AOps.step rfl rfl ?_
          refine AOp.of_run (ARun.indexAddrL rfl rfl rfl (by omega) (by omega)) ?_
          refine AOps.want rfl rfl (by decide) rfl ?_
          refine AOps.step rfl rfl (AOp.of_run (ARun.loadL rfl rfl gs) ?_)
          refine AOps.want rfl rfl (by decide) rfl ?_
          refine AOps.step rfl rfl ?_
          refine AOp.of_run (ARun.mvV (.inl rfl) rfl) ?_
          refine AOps.want rfl rfl (by decide) rfl ?_
          refine AOps.step rfl rfl ?_
          refine AOp.of_run (ARun.indexAddrL rfl rfl rfl (by omega) (by omega)) ?_
          refine AOps.want rfl rfl (by decide) rfl ?_
          refine AOps.step rfl rfl (AOp.of_run (ARun.loadL rfl rfl (by assumption)) ?_)
          refine AOps.want rfl rfl (by decide) rfl ?_
          refine AOps.step rfl rfl ?_
          refine AOp.of_run (ARun.mvV (.inl rfl) rfl) ?_
          refine AOps.want rfl rfl (by decide) rfl ?_
          refine AOps.step rfl rfl ?_
          refine AOp.of_run (ARun.geq rfl rfl rfl) ?_
          refine AOps.step rfl rfl (AOp.of_run (ARun.pickF rfl rfl) ?_)
          refine AOps.nil ?_
          rw [dec_le f.parts.length to]
          exact ⟨rfl, rfl, rfl, rfl, rfl, rfl, rfl, rfl, trivial⟩
      rintro _ τ _ ⟨rfl, rfl, hs⟩
      obtain ⟨t3, rfl⟩ := hs.open_
      (repeat (first | refine AC.seq ?_ | refine AC.block ?_ | refine AC.skip ?_)); refine AC.cond rfl (fun hc => ?_) (fun hc => ?_)
      · (repeat (first | refine AC.seq ?_ | refine AC.block ?_ | refine AC.skip ?_))
        refine AC.region ?_
        refine AOps.step rfl rfl ?_
        refine AOp.of_run (ARun.mvV (.inr rfl) rfl) ?_
        refine AOps.nil ?_
        refine AC.ret (ARes.one rfl (RV.V rfl) ⟨hno (hbad2 fun e => ?_), rfl⟩)
        rw [decide_eq_true e.1, decide_eq_true e.2] at hc; cases hc
      have hto : 0 ≤ to ∧ to < f.parts.length := by simpa using hc
      (repeat (first | refine AC.seq ?_ | refine AC.block ?_ | refine AC.skip ?_ | refine AC.exit ?_))
      (repeat (first | refine AC.seq ?_ | refine AC.block ?_ | refine AC.skip ?_))
      refine AC.region ?_
      refine AOps.step rfl rfl ?_
      refine AOp.of_run (ARun.mvV (.inl rfl) rfl) ?_
      refine AOps.step rfl rfl ?_
      refine AOp.of_run (ARun.add rfl rfl rfl) ?_
      refine AOps.step rfl rfl ?_
      refine AOp.of_run (ARun.mvV (.inr rfl) rfl) ?_
      refine AOps.nil ?_
      exact ⟨_, by omega, j + 1, hlt2, rfl, ⟨rfl, rfl, rfl, rfl, eI_wrap (by omega) (by omega) (by omega), trivial⟩, hin2 hto, rfl⟩
    have hge : j = R.length := by simp at hc; omega
    subst hge
    rw [List.take_length] at hin
    (repeat (first | refine AC.seq ?_ | refine AC.block ?_ | refine AC.skip ?_ | refine AC.exit ?_))
    (repeat (first | refine AC.seq ?_ | refine AC.block ?_ | refine AC.skip ?_))
    refine AC.region ?_
    refine AOps.step rfl rfl ?_
    refine AOp.of_run (ARun.mvV (.inl rfl) rfl) ?_
    refine AOps.step rfl rfl ?_
    refine AOp.of_run (ARun.add rfl rfl rfl) ?_
    refine AOps.step rfl rfl ?_
    refine AOp.of_run (ARun.mvV (.inr rfl) rfl) ?_
    refine AOps.nil ?_
    exact ⟨_, by omega, i + 1, hlt, rfl, ⟨rfl, rfl, rfl, eI_wrap (by omega) (by omega) (by omega), trivial⟩, hgood ⟨hok, hin⟩, rfl⟩
  have hge : i = f.parts.length := by simp at hc; omega
  subst hge
  have hhall : ∀ p ∈ f.parts, endOK p.end_ = true ∧ ∀ y ∈ next p.end_, 0 ≤ y ∧ y < f.parts.length := fun p hp => by
    obtain ⟨j, hj, rfl⟩ := List.getElem_of_mem hp
    exact hall j hj hj
  (repeat (first | refine AC.seq ?_ | refine AC.block ?_ | refine AC.skip ?_ | refine AC.exit ?_))
  (repeat (first | refine AC.seq ?_ | refine AC.block ?_ | refine AC.skip ?_))
  refine AC.region ?_
  refine AOps.step rfl rfl ?_
  refine AOp.of_run (ARun.mvL (.inl rfl) rfl) ?_
  refine AOps.step rfl rfl (AOp.call_ rfl rfl ((Reach15_spec (succL f) _ hs0 (by omega) (fun l hl => by have := succL_rows f l hl; omega)).mono ?_))
  rintro _ _ ⟨⟨S, rfl, hSl, hS⟩, rfl⟩
  rename_i h1
  refine AOps.step rfl rfl ?_
  refine AOp.of_run (ARun.mvL (.inr rfl) rfl) ?_
  refine AOps.nil ?_
  (repeat (first | refine AC.seq ?_ | refine AC.block ?_ | refine AC.skip ?_))
  refine AC.region ?_
  refine AOps.step rfl rfl ?_
  refine AOp.of_run (ARun.mvV (.inr rfl) rfl) ?_
  refine AOps.nil ?_
  (repeat (first | refine AC.seq ?_ | refine AC.block ?_ | refine AC.skip ?_ | refine AC.exit ?_))
  refine AC.loop (fun m τ h' => ∃ i : Nat, i ≤ f.parts.length ∧ m = f.parts.length - i ∧ Slots τ [(1, eIss (succL f)), (2, .lp (eIr f) 0), (5, eI f.parts.length), (11, eBs S), (12, eI i)] ∧
    (∀ j (hj : j < f.parts.length), j < i → RW (succL f) (-1) j ∧ predP (succL f) j = f.parts[j].pred) ∧ h' = h1) f.parts.length ?_ ?_
  · exact ⟨0, Nat.zero_le _, rfl, ⟨rfl, rfl, rfl, rfl, rfl, trivial⟩, fun j _ hj => by omega, rfl⟩
  rintro m τ h' ⟨i, hi, rfl, hs, hall2, rfl⟩
  obtain ⟨t1, rfl⟩ := hs.open_
  (repeat (first | refine AC.seq ?_ | refine AC.block ?_ | refine AC.skip ?_))
  refine AC.region ?_
  refine AOps.step rfl rfl ?_
  refine AOp.of_run (ARun.mvV (.inl rfl) rfl) ?_
  refine AOps.step rfl rfl ?_
  refine AOp.of_run (ARun.mvV (.inl rfl) rfl) ?_
  refine AOps.step rfl rfl ?_
  refine AOp.of_run (ARun.lss rfl rfl rfl) ?_
  refine AOps.nil ?_
  (repeat (first | refine AC.seq ?_ | refine AC.block ?_ | refine AC.skip ?_)); refine AC.cond rfl (fun hc => ?_) (fun hc => ?_)
  · have hlt : i < f.parts.length := by simpa using hc
    (repeat (first | refine AC.seq ?_ | refine AC.block ?_ | refine AC.skip ?_ | refine AC.exit ?_))
    (repeat (first | refine AC.seq ?_ | refine AC.block ?_ | refine AC.skip ?_))
    refine AC.region ?_
    refine AOps.step rfl rfl ?_
    refine AOp.of_run (ARun.mvV (.inr rfl) rfl) ?_
    refine AOps.nil ?_
    (repeat (first | refine AC.seq ?_ | refine AC.block ?_ | refine AC.skip ?_))
    refine AC.region ?_
    refine AOps.step rfl rfl ?_
    refine AOp.of_run (ARun.mvV (.inr rfl) rfl) ?_
    refine AOps.nil ?_
    (repeat (first | refine AC.seq ?_ | refine AC.block ?_ | refine AC.skip ?_ | refine AC.exit ?_))
    refine AC.loop (fun m τ h5 => ∃ (a : Nat) (x : AVal), a ≤ f.parts.length ∧ m = f.parts.length - a ∧ Slots τ [(1, eIss (succL f)), (2, .lp (eIr f) 0), (5, eI f.parts.length), (11, eBs S), (12, eI i), (13, x), (14, eI a)] ∧ Own h' 3 1 (predP ((succL f).take a) i).length ((predP ((succL f).take a) i).map eI) x h5) f.parts.length ?_ ?_
    · exact ⟨0, _, Nat.zero_le _, rfl, ⟨rfl, rfl, rfl, rfl, rfl, rfl, rfl, trivial⟩, Own.nil h' 3 1⟩
    rintro m τ h2 ⟨a, x, ha, rfl, hs, ho⟩
    obtain ⟨t2, rfl⟩ := hs.open_
    (repeat (first | refine AC.seq ?_ | refine AC.block ?_ | refine AC.skip ?_))
    refine AC.region ?_
    refine AOps.step rfl rfl ?_
    refine AOp.of_run (ARun.mvV (.inl rfl) rfl) ?_
    refine AOps.step rfl rfl ?_
    refine AOp.of_run (ARun.mvV (.inl rfl) rfl) ?_
    refine AOps.step rfl rfl ?_
    refine AOp.of_run (ARun.lss rfl rfl rfl) ?_
    refine AOps.nil ?_
    (repeat (first | refine AC.seq ?_ | refine AC.block ?_ | refine AC.skip ?_)); refine AC.cond rfl (fun hc => ?_) (fun hc => ?_)
    · have hlta : a < f.parts.length := by simpa using hc
      have gs := hsucc hlta
      have hrow : ∃ hs : a < (succL f).length, (succL f)[a] = next f.parts[a].end_ := ⟨by omega, by simp [succL]⟩
      have hR2 := next_len f.parts[a].end_
      generalize next f.parts[a].end_ = R at *
      obtain ⟨hsi, hrow⟩ := hrow
      (repeat (first | refine AC.seq ?_ | refine AC.block ?_ | refine AC.skip ?_ | refine AC.exit ?_))
      (repeat (first | refine AC.seq ?_ | refine AC.block ?_ | refine AC.skip ?_))
      refine AC.region ?_
      refine AOps.step rfl rfl ?_
      refine AOp.of_run (ARun.mvV (.inr rfl) rfl) ?_
      refine AOps.nil ?_
      (repeat (first | refine AC.seq ?_ | refine AC.block ?_ | refine AC.skip ?_ | refine AC.exit ?_))
      refine AC.loop (fun m τ h5 => ∃ (k : Nat) (x : AVal), k ≤ R.length ∧ m = R.length - k ∧ Slots τ [(1, eIss (succL f)), (2, .lp (eIr f) 0), (5, eI f.parts.length), (11, eBs S), (12, eI i), (13, x), (14, eI a), (15, eI k)] ∧ Own h' 3 1 (stageP (succL f) a R k i).length ((stageP (succL f) a R k i).map eI) x h5) R.length ?_ ?_
      · exact ⟨0, x, Nat.zero_le _, rfl, ⟨rfl, rfl, rfl, rfl, rfl, rfl, rfl, rfl, trivial⟩, by rw [stageP_zero]; exact ho⟩
      rintro m τ h3 ⟨k, x, hk, rfl, hs, ho⟩
      obtain ⟨t3, rfl⟩ := hs.open_
      (repeat (first | refine AC.seq ?_ | refine AC.block ?_ | refine AC.skip ?_))
      refine AC.region ?_
      refine AOps.step rfl rfl ?_
      refine AOp.of_run (ARun.mvV (.inl rfl) rfl) ?_
      refine AOps.step rfl rfl ?_
      refine AOp.of_run (ARun.mvL (.inl rfl) rfl) ?_
      refine AOps.step rfl rfl ?_
      refine AOp.of_run (ARun.mvV (.inl rfl) rfl) ?_
      refine AOps.step rfl rfl ?_
      refine AOp.of_run (ARun.indexAddrL rfl rfl rfl (by omega) (by omega)) ?_
      refine AOps.step rfl rfl (AOp.of_run (ARun.loadL rfl rfl gs) ?_)
      refine AOps.step rfl rfl ?_
      refine AOp.of_run (ARun.lenL rfl rfl) ?_
      refine AOps.step rfl rfl ?_
      refine AOp.of_run (ARun.lss rfl rfl rfl) ?_
      refine AOps.nil ?_
      (repeat (first | refine AC.seq ?_ | refine AC.block ?_ | refine AC.skip ?_)); refine AC.cond rfl (fun hc => ?_) (fun hc => ?_)
      · have hltk : k < R.length := by simpa using hc
        have g1 : (R.map eI)[(k : Int).toNat * 1]? = some (eI R[k]) := get_map hltk
        have hstep := stageP_succ (succ := succL f) (i := a) hltk (i : Int)
        have hlen := stageP_len f a k R hR2 ha (i : Int)
        (repeat (first | refine AC.seq ?_ | refine AC.block ?_ | refine AC.skip ?_ | refine AC.exit ?_))
        (repeat (first | refine AC.seq ?_ | refine AC.block ?_ | refine AC.skip ?_))
        refine AC.region ?_
        refine AOps.step rfl rfl ?_
        refine AOp.of_run (ARun.mvL (.inl rfl) rfl) ?_
        refine AOps.step rfl rfl ?_
        refine AOp.of_run (ARun.mvV (.inl rfl) rfl) ?_
        refine AOps.step rfl rfl ?_
        refine AOp.of_run (ARun.indexAddrL rfl rfl rfl (by omega) (by omega)) ?_
        refine AOps.step rfl rfl (AOp.of_run (ARun.loadL rfl rfl gs) ?_)
        refine AOps.step rfl rfl ?_
        refine AOp.of_run (ARun.mvV (.inl rfl) rfl) ?_
        refine AOps.step rfl rfl ?_
        refine AOp.of_run (ARun.indexAddrL rfl rfl rfl (by omega) (by omega)) ?_
        refine AOps.step rfl rfl (AOp.of_run (ARun.loadL rfl rfl g1) ?_)
        refine AOps.step rfl rfl ?_
        refine AOp.of_run (ARun.mvV (.inl rfl) rfl) ?_
        refine AOps.step rfl rfl ?_
        refine AOp.of_run (ARun.eql rfl rfl rfl) ?_
        refine AOps.nil ?_
        (repeat (first | refine AC.seq ?_ | refine AC.block ?_ | refine AC.skip ?_)); refine AC.cond rfl (fun hc => ?_) (fun hc => ?_)
        · have he : R[k] = i := by simpa using hc
          rw [if_pos he] at hstep
          (repeat (first | refine AC.seq ?_ | refine AC.block ?_ | refine AC.skip ?_))
          refine AC.region ?_
          refine AOps.step rfl rfl ?_
          refine AOp.of_run (ARun.move rfl) ?_
          refine AOps.step rfl rfl ?_
          refine AOp.of_run (ARun.mvV (.inl rfl) rfl) ?_
          refine AOps.step rfl rfl ?_
          refine AOp.buildSlice rfl ?_
          refine AOps.step rfl rfl (AOp.append rfl ho (RdSl.ls (by rfl)) (by unfold maxLen; omega) (by omega) fun x' h4 ho2 => ?_)
          refine AOps.step rfl rfl ?_
          refine AOp.of_run (ARun.assign rfl) ?_
          refine AOps.nil ?_
          (repeat (first | refine AC.seq ?_ | refine AC.block ?_ | refine AC.skip ?_ | refine AC.exit ?_))
          (repeat (first | refine AC.seq ?_ | refine AC.block ?_ | refine AC.skip ?_))
          refine AC.region ?_
          refine AOps.step rfl rfl ?_
          refine AOp.of_run (ARun.mvV (.inl rfl) rfl) ?_
          refine AOps.step rfl rfl ?_
          refine AOp.of_run (ARun.add rfl rfl rfl) ?_
          refine AOps.step rfl rfl ?_
          refine AOp.of_run (ARun.mvV (.inr rfl) rfl) ?_
          refine AOps.nil ?_
          refine ⟨_, by omega, k + 1, x', hltk, rfl, ⟨rfl, rfl, rfl, rfl, rfl, rfl, rfl, eI_wrap (by omega) (by omega) (by omega), trivial⟩, ?_⟩
          rw [hstep, List.length_append, List.map_append]; exact ho2
        · have he : R[k] ≠ i := by simpa using hc
          rw [if_neg he] at hstep
          (repeat (first | refine AC.seq ?_ | refine AC.block ?_ | refine AC.skip ?_ | refine AC.exit ?_))
          (repeat (first | refine AC.seq ?_ | refine AC.block ?_ | refine AC.skip ?_))
          refine AC.region ?_
          refine AOps.step rfl rfl ?_
          refine AOp.of_run (ARun.mvV (.inl rfl) rfl) ?_
          refine AOps.step rfl rfl ?_
          refine AOp.of_run (ARun.add rfl rfl rfl) ?_
          refine AOps.step rfl rfl ?_
          refine AOp.of_run (ARun.mvV (.inr rfl) rfl) ?_
          refine AOps.nil ?_
          exact ⟨_, by omega, k + 1, x, hltk, rfl, ⟨rfl, rfl, rfl, rfl, rfl, rfl, rfl, eI_wrap (by omega) (by omega) (by omega), trivial⟩, by rw [hstep]; exact ho⟩
      have hge : k = R.length := by simp at hc; omega
      subst hge
      have hnx := stageP_end hsi (j := R.length) (by rw [hrow]; exact Nat.le_refl _) (i : Int)
      rw [hrow] at hnx
      rw [hnx] at ho
      (repeat (first | refine AC.seq ?_ | refine AC.block ?_ | refine AC.skip ?_ | refine AC.exit ?_))
      (repeat (first | refine AC.seq ?_ | refine AC.block ?_ | refine AC.skip ?_))
      refine AC.region ?_
      refine AOps.step rfl rfl ?_
      refine AOp.of_run (ARun.mvV (.inl rfl) rfl) ?_
      refine AOps.step rfl rfl ?_
      refine AOp.of_run (ARun.add rfl rfl rfl) ?_
      refine AOps.step rfl rfl ?_
      refine AOp.of_run (ARun.mvV (.inr rfl) rfl) ?_
      refine AOps.nil ?_
      exact ⟨_, by omega, a + 1, x, hlta, rfl, ⟨rfl, rfl, rfl, rfl, rfl, rfl, eI_wrap (by omega) (by omega) (by omega), trivial⟩, ho⟩
    have hge : a = f.parts.length := by simp at hc; omega
    subst hge
    rw [take_all (Nat.le_of_eq hsl)] at ho
    (repeat (first | refine AC.seq ?_ | refine AC.block ?_ | refine AC.skip ?_ | refine AC.exit ?_))
    refine AC.le (Le.freezeOwn (d := 13) ho) ?_
    have hrd : rdc (f.parts.flatMap ePart) ((i : Int).toNat * 10) 10 = some (ePart f.parts[i]) := by rw [Int.toNat_natCast]; exact rdc_flatMap ePart_len hlt
    have hbad : ¬ (RW (succL f) (-1) i ∧ predP (succL f) i = f.parts[i].pred) → ¬ waysP f := fun e w => e ⟨(w.2 i hlt).1, (w.2 i hlt).2.1⟩
    have hgood : (RW (succL f) (-1) i ∧ predP (succL f) i = f.parts[i].pred) → ∀ j (hj : j < f.parts.length), j < i + 1 → RW (succL f) (-1) j ∧ predP (succL f) j = f.parts[j].pred := fun e j hj hji => by
      rcases Nat.lt_or_ge j i with c | c
      · exact hall2 j hj c
      · obtain rfl : j = i := by omega
        exact e
    have g3 : (f.parts.flatMap ePart)[(i : Int).toNat * 10 + 0]? = some (eIs f.parts[i].pred) := by rw [Int.toNat_natCast]; exact (get_flatMap ePart_len hlt (by decide)).trans rfl
    have zp := (z.part _ (List.getElem_mem hlt)).pred
    have hpl := predP_len (succL f) 0 (i : Int) (succL_rows f)
    generalize f.parts[i].pred = pd at *
    have hPl : (predP (succL f) (i : Int)).length ≤ 100000 := by unfold predP; omega
    have hre := hS i (by omega)
    obtain ⟨sv, hsv⟩ : ∃ sv, S[i]? = some sv := ⟨_, List.getElem?_eq_getElem (by omega)⟩
    have g1 : (S.map eB)[(i : Int).toNat * 1]? = some (eB sv) := by
      rw [Int.toNat_natCast, Nat.mul_one, List.getElem?_map, hsv]; rfl
    generalize predP (succL f) (i : Int) = Q at *
    cases sv
    · (repeat (first | refine AC.seq ?_ | refine AC.block ?_ | refine AC.skip ?_))
      refine AC.region ?_
      refine AOps.step rfl rfl ?_
      refine AOp.of_run (ARun.mvL (.inl rfl) rfl) ?_
      refine AOps.step rfl rfl ?_
      refine AOp.of_run (ARun.mvV (.inl rfl) rfl) ?_
      refine AOps.step rfl rfl ?_
      refine AOp.of_run (ARun.indexAddrL rfl rfl rfl (by omega) (by omega)) ?_
      refine AOps.step rfl rfl (AOp.of_run (ARun.loadL rfl rfl g1) ?_)
      refine AOps.step rfl rfl ?_
      refine AOp.of_run (ARun.not rfl rfl) ?_
      refine AOps.step rfl rfl ?_
      refine AOp.of_run (ARun.mvV (.inl rfl) rfl) ?_
      refine AOps.passU rfl rfl (by decide) rfl rfl rfl ?_
      refine AOps.passU rfl rfl (by decide) rfl rfl rfl ?_
      refine AOps.passU rfl rfl (by decide) rfl rfl rfl ?_
      refine AOps.passU rfl rfl (by decide) rfl rfl rfl ?_
      refine AOps.passU rfl rfl (by decide) rfl rfl rfl ?_
      refine AOps.passU rfl rfl (by decide) rfl rfl rfl ?_
      refine AOps.passU rfl rfl (by decide) rfl rfl rfl ?_
      refine AOps.passU rfl rfl (by decide) rfl rfl rfl ?_
      refine AOps.passU rfl rfl (by decide) rfl rfl rfl ?_
      refine AOps.step rfl rfl (AOp.of_run (ARun.pickT rfl rfl) ?_)
      refine AOps.nil ?_
      (repeat (first | refine AC.seq ?_ | refine AC.block ?_ | refine AC.skip ?_)); refine AC.cond rfl (fun hc => ?_) (fun hc => ?_)
      · (repeat (first | refine AC.seq ?_ | refine AC.block ?_ | refine AC.skip ?_))
        refine AC.region ?_
        refine AOps.step rfl rfl ?_
        refine AOp.of_run (ARun.mvV (.inr rfl) rfl) ?_
        refine AOps.nil ?_
        refine AC.ret (ARes.one rfl (RV.V rfl) ⟨hno (hbad fun e => ?_), rfl⟩)
        have := hre.2 e.1
        rw [hsv] at this; cases this
      · cases hc
    (repeat (first | refine AC.seq ?_ | refine AC.block ?_ | refine AC.skip ?_))
    refine AC.region ?_
    refine AOps.step rfl rfl ?_
    refine AOp.of_run (ARun.mvL (.inl rfl) rfl) ?_
    refine AOps.step rfl rfl ?_
    refine AOp.of_run (ARun.mvV (.inl rfl) rfl) ?_
    refine AOps.step rfl rfl ?_
    refine AOp.of_run (ARun.indexAddrL rfl rfl rfl (by omega) (by omega)) ?_
    refine AOps.step rfl rfl (AOp.of_run (ARun.loadL rfl rfl g1) ?_)
    refine AOps.step rfl rfl ?_
    refine AOp.of_run (ARun.not rfl rfl) ?_
    refine AOps.step rfl rfl ?_
    refine AOp.of_run (ARun.mvV (.inl rfl) rfl) ?_
    refine AOps.want rfl rfl (by decide) rfl ?_
    refine AOps.step rfl rfl ?_
    refine AOp.of_run (ARun.mvL (.inl rfl) rfl) ?_
    refine AOps.want rfl rfl (by decide) rfl ?_
    refine AOps.step rfl rfl ?_
    refine AOp.of_run (ARun.fieldAddrL rfl rfl) ?_
    refine AOps.want rfl rfl (by decide) rfl ?_
    refine AOps.step rfl rfl ?_
    refine AOp.of_run (ARun.loadL rfl rfl rfl) ?_
    refine AOps.want rfl rfl (by decide) rfl ?_
    refine AOps.step rfl rfl ?_
    refine AOp.of_run (ARun.mvV (.inl rfl) rfl) ?_
    refine AOps.want rfl rfl (by decide) rfl ?_
    refine AOps.step rfl rfl ?_
    refine AOp.of_run (ARun.indexAddrL rfl rfl rfl (by omega) (by omega)) ?_
    refine AOps.want rfl rfl (by decide) rfl ?_
    refine AOps.step rfl rfl ?_
    refine AOp.of_run (ARun.fieldAddrL rfl rfl) ?_
    refine AOps.want rfl rfl (by decide) rfl ?_
    refine AOps.step rfl rfl (AOp.of_run (ARun.loadL rfl rfl g3) ?_)
    refine AOps.want rfl rfl (by decide) rfl ?_
    refine AOps.step rfl rfl (AOp.call_ rfl rfl ((Ints_spec Q pd _ (by omega)).mono ?_))
    rintro _ _ ⟨rfl, rfl⟩
    cases he : decide (Q = pd)
    · refine AOps.want rfl rfl (by decide) rfl ?_
      refine AOps.step rfl rfl ?_
      refine AOp.of_run (ARun.not rfl rfl) ?_
      refine AOps.step rfl rfl (AOp.of_run (ARun.pickF rfl rfl) ?_)
      refine AOps.nil ?_
      (repeat (first | refine AC.seq ?_ | refine AC.block ?_ | refine AC.skip ?_)); refine AC.cond rfl (fun hc => ?_) (fun hc => ?_)
      · (repeat (first | refine AC.seq ?_ | refine AC.block ?_ | refine AC.skip ?_))
        refine AC.region ?_
        refine AOps.step rfl rfl ?_
        refine AOp.of_run (ARun.mvV (.inr rfl) rfl) ?_
        refine AOps.nil ?_
        refine AC.ret (ARes.one rfl (RV.V rfl) ⟨hno (hbad fun e => ?_), rfl⟩)
        exact absurd e.2 (by simpa using he)
      · cases hc
    · refine AOps.want rfl rfl (by decide) rfl ?_
      refine AOps.step rfl rfl ?_
      refine AOp.of_run (ARun.not rfl rfl) ?_
      refine AOps.step rfl rfl (AOp.of_run (ARun.pickF rfl rfl) ?_)
      refine AOps.nil ?_
      (repeat (first | refine AC.seq ?_ | refine AC.block ?_ | refine AC.skip ?_)); refine AC.cond rfl (fun hc => ?_) (fun hc => ?_)
      · cases hc
      (repeat (first | refine AC.seq ?_ | refine AC.block ?_ | refine AC.skip ?_ | refine AC.exit ?_))
      (repeat (first | refine AC.seq ?_ | refine AC.block ?_ | refine AC.skip ?_))
      refine AC.region ?_
      refine AOps.step rfl rfl ?_
      refine AOp.of_run (ARun.mvV (.inl rfl) rfl) ?_
      refine AOps.step rfl rfl ?_
      refine AOp.of_run (ARun.add rfl rfl rfl) ?_
      refine AOps.step rfl rfl ?_
      refine AOp.of_run (ARun.mvV (.inr rfl) rfl) ?_
      refine AOps.nil ?_
      exact ⟨_, by omega, i + 1, hlt, rfl, ⟨rfl, rfl, rfl, rfl, eI_wrap (by omega) (by omega) (by omega), trivial⟩, hgood ⟨hre.1 hsv, by simpa using he⟩, rfl⟩
  have hge : i = f.parts.length := by simp at hc; omega
  subst hge
  have g4 : (f.parts.flatMap ePart)[0 * 10 + 0]? = some (eIs f.parts[0].pred) := (get_flatMap ePart_len hn0 (by decide)).trans rfl
  have zp := (z.part _ (List.getElem_mem hn0)).pred
  (repeat (first | refine AC.seq ?_ | refine AC.block ?_ | refine AC.skip ?_ | refine AC.exit ?_))
  (repeat (first | refine AC.seq ?_ | refine AC.block ?_ | refine AC.skip ?_))
  refine AC.region ?_
  refine AOps.step rfl rfl ?_
  refine AOp.of_run (ARun.fieldAddrL rfl rfl) ?_
  refine AOps.step rfl rfl ?_
  refine AOp.of_run (ARun.loadL rfl rfl rfl) ?_
  refine AOps.step rfl rfl ?_
  refine AOp.of_run (ARun.indexAddrL rfl rfl rfl (by omega) (by omega)) ?_
  refine AOps.step rfl rfl ?_
  refine AOp.of_run (ARun.fieldAddrL rfl rfl) ?_
  refine AOps.step rfl rfl (AOp.of_run (ARun.loadL rfl rfl g4) ?_)
  refine AOps.step rfl rfl ?_
  refine AOp.of_run (ARun.lenL rfl rfl) ?_
  refine AOps.step rfl rfl ?_
  refine AOp.of_run (ARun.eql rfl rfl rfl) ?_
  refine AOps.step rfl rfl ?_
  refine AOp.of_run (ARun.mvV (.inr rfl) rfl) ?_
  refine AOps.nil ?_
  refine AC.ret (ARes.one rfl (RV.V rfl) ⟨⟨_, rfl, ?_⟩, rfl⟩)
  constructor
  · intro e
    have e0 : f.parts[0].pred = [] := List.eq_nil_of_length_eq_zero (by have := of_decide_eq_true e; omega)
    exact ⟨hhall, fun j hj => ⟨(hall2 j hj hj).1, (hall2 j hj hj).2, fun e => by subst e; exact e0⟩⟩
  · intro w
    have := (w.2 0 hn0).2.2 rfl
    rw [this]; rfl
end Go.Proofs.Ytilanageangegaa

/- Walk of the document's answer for layer 16 (8): Check. -/
set_option linter.unusedVariables false
set_option linter.unusedSimpArgs false
namespace Go.Proofs.Ytilanageangegaa
open Go.Ab

set_option maxRecDepth 10000 in
theorem CheckR_spec (f : DIr) (h : AHeap) (z : Sz f) : Sp Try.prog 14 [.agg (eIr f)] h (fun r h' => r = eI (chkE f) ∧ h' = h) := by
  have hz := z.parts
  refine Sp.of Try.func14 rfl rfl (by show 1 ≤ 59; decide) ?_
  (repeat (first | refine AC.seq ?_ | refine AC.block ?_ | refine AC.skip ?_))
  refine AC.region ?_
  refine AOps.step rfl rfl ?_
  refine AOp.boxL rfl rfl ?_
  refine AOps.step rfl rfl ?_
  refine AOp.of_run (ARun.mvV (.inr rfl) rfl) ?_
  refine AOps.nil ?_
  (repeat (first | refine AC.seq ?_ | refine AC.block ?_ | refine AC.skip ?_ | refine AC.exit ?_))
  refine AC.mono (Q := fun ex τ h2 => ex = .normal ∧ h2 = h ∧ ∃ q : Bool, (q = true ↔ ((1 ≤ f.parts.length ∧ f.parts.length ≤ 8192) ∧ 0 ≤ f.values ∧ f.values ≤ 65536)) ∧ Slots τ [(1, .lp (eIr f) 0), (27, eB (!q))]) ?_ ?_
  · (repeat (first | refine AC.seq ?_ | refine AC.block ?_ | refine AC.skip ?_))
    refine AC.region ?_
    refine AOps.step rfl rfl ?_
    refine AOp.of_run (ARun.fieldAddrL rfl rfl) ?_
    refine AOps.step rfl rfl ?_
    refine AOp.of_run (ARun.loadL rfl rfl rfl) ?_
    refine AOps.step rfl rfl ?_
    refine AOp.of_run (ARun.lenL rfl rfl) ?_
    refine AOps.step rfl rfl ?_
    refine AOp.of_run (ARun.lss rfl rfl rfl) ?_
    refine AOps.step rfl rfl ?_
    refine AOp.of_run (ARun.mvV (.inl rfl) rfl) ?_
    rw [dec_lt f.parts.length 1]
    cases g1 : decide ((1 : Int) ≤ f.parts.length)
    · refine AOps.passU rfl rfl (by decide) rfl rfl rfl ?_
      refine AOps.passU rfl rfl (by decide) rfl rfl rfl ?_
      refine AOps.passU rfl rfl (by decide) rfl rfl rfl ?_
      refine AOps.passU rfl rfl (by decide) rfl rfl rfl ?_
      refine AOps.step rfl rfl (AOp.of_run (ARun.pickT rfl rfl) ?_)
      refine AOps.step rfl rfl ?_
      refine AOp.of_run (ARun.mvV (.inl rfl) rfl) ?_
      refine AOps.passU rfl rfl (by decide) rfl rfl rfl ?_
      refine AOps.passU rfl rfl (by decide) rfl rfl rfl ?_
      refine AOps.passU rfl rfl (by decide) rfl rfl rfl ?_
      refine AOps.step rfl rfl (AOp.of_run (ARun.pickT rfl rfl) ?_)
      refine AOps.step rfl rfl ?_
      refine AOp.of_run (ARun.mvV (.inl rfl) rfl) ?_
      refine AOps.passU rfl rfl (by decide) rfl rfl rfl ?_
      refine AOps.passU rfl rfl (by decide) rfl rfl rfl ?_
      refine AOps.passU rfl rfl (by decide) rfl rfl rfl ?_
      refine AOps.step rfl rfl (AOp.of_run (ARun.pickT rfl rfl) ?_)
      refine AOps.nil ?_
      exact ⟨rfl, rfl, false, by have := of_decide_eq_false g1; simp; omega, rfl, rfl, trivial⟩
    have k1 : (1 : Int) ≤ f.parts.length := by simpa using g1
    have g2 : decide ((8192 : Int) < f.parts.length) = false := decide_eq_false (by omega)
    refine AOps.want rfl rfl (by decide) rfl ?_
    refine AOps.step rfl rfl ?_
    refine AOp.of_run (ARun.fieldAddrL rfl rfl) ?_
    refine AOps.want rfl rfl (by decide) rfl ?_
    refine AOps.step rfl rfl ?_
    refine AOp.of_run (ARun.loadL rfl rfl rfl) ?_
    refine AOps.want rfl rfl (by decide) rfl ?_
    refine AOps.step rfl rfl ?_
    refine AOp.of_run (ARun.lenL rfl rfl) ?_
    refine AOps.want rfl rfl (by decide) rfl ?_
    refine AOps.step rfl rfl (AOp.of_run (ARun.gtrV rfl rfl rfl g2) ?_)
    refine AOps.step rfl rfl (AOp.of_run (ARun.pickF rfl rfl) ?_)
    refine AOps.step rfl rfl ?_
    refine AOp.of_run (ARun.mvV (.inl rfl) rfl) ?_
    refine AOps.want rfl rfl (by decide) rfl ?_
    refine AOps.step rfl rfl ?_
    refine AOp.of_run (ARun.fieldAddrL rfl rfl) ?_
    refine AOps.want rfl rfl (by decide) rfl ?_
    refine AOps.step rfl rfl ?_
    refine AOp.of_run (ARun.loadL rfl rfl rfl) ?_
    refine AOps.want rfl rfl (by decide) rfl ?_
    refine AOps.step rfl rfl ?_
    refine AOp.of_run (ARun.lss rfl rfl rfl) ?_
    rw [dec_lt f.values 0]
    cases g3 : decide (0 ≤ f.values)
    · refine AOps.step rfl rfl (AOp.of_run (ARun.pickF rfl rfl) ?_)
      refine AOps.step rfl rfl ?_
      refine AOp.of_run (ARun.mvV (.inl rfl) rfl) ?_
      refine AOps.passU rfl rfl (by decide) rfl rfl rfl ?_
      refine AOps.passU rfl rfl (by decide) rfl rfl rfl ?_
      refine AOps.passU rfl rfl (by decide) rfl rfl rfl ?_
      refine AOps.step rfl rfl (AOp.of_run (ARun.pickT rfl rfl) ?_)
      refine AOps.nil ?_
      exact ⟨rfl, rfl, false, by have := of_decide_eq_false g3; simp; omega, rfl, rfl, trivial⟩
    have k3 : 0 ≤ f.values := by simpa using g3
    refine AOps.step rfl rfl (AOp.of_run (ARun.pickF rfl rfl) ?_)
    refine AOps.step rfl rfl ?_
    refine AOp.of_run (ARun.mvV (.inl rfl) rfl) ?_
    refine AOps.want rfl rfl (by decide) rfl ?_
    refine AOps.step rfl rfl ?_
    refine AOp.of_run (ARun.fieldAddrL rfl rfl) ?_
    refine AOps.want rfl rfl (by decide) rfl ?_
    refine AOps.step rfl rfl ?_
    refine AOp.of_run (ARun.loadL rfl rfl rfl) ?_
    refine AOps.want rfl rfl (by decide) rfl ?_
    refine AOps.step rfl rfl ?_
    refine AOp.of_run (ARun.gtr rfl rfl rfl) ?_
    rw [dec_lt 65536 f.values]
    refine AOps.step rfl rfl (AOp.of_run (ARun.pickF rfl rfl) ?_)
    refine AOps.nil ?_
    exact ⟨rfl, rfl, decide (f.values ≤ 65536), by simp; omega, rfl, rfl, trivial⟩
  rintro _ τ _ ⟨rfl, rfl, q, hq, hs⟩
  obtain ⟨t0, rfl⟩ := hs.open_
  (repeat (first | refine AC.seq ?_ | refine AC.block ?_ | refine AC.skip ?_)); refine AC.cond rfl (fun hc => ?_) (fun hc => ?_)
  · have hqf : q = false := by simpa using hc
    (repeat (first | refine AC.seq ?_ | refine AC.block ?_ | refine AC.skip ?_))
    refine AC.region ?_
    refine AOps.step rfl rfl ?_
    refine AOp.of_run (ARun.mvV (.inr rfl) rfl) ?_
    refine AOps.nil ?_
    refine AC.ret (ARes.one rfl (RV.V rfl) ⟨?_, rfl⟩)
    rw [chkE_no fun e => by have := hq.2 e.1; rw [hqf] at this; cases this]; rfl
  have hqt : q = true := by simpa using hc
  have hsz := hq.1 hqt
  have hne : f.parts ≠ [] := fun e => by have := hsz.1.1; rw [e] at this; simp at this
  have hsl := succL_len f
  have hs0 : succL f ≠ [] := fun e => by rw [e] at hsl; exact hne (List.eq_nil_of_length_eq_zero hsl.symm)
  (repeat (first | refine AC.seq ?_ | refine AC.block ?_ | refine AC.skip ?_ | refine AC.exit ?_))
  (repeat (first | refine AC.seq ?_ | refine AC.block ?_ | refine AC.skip ?_))
  refine AC.region ?_
  refine AOps.step rfl rfl ?_
  refine AOp.of_run (ARun.loadNL rfl rfl rfl) ?_
  refine AOps.step rfl rfl (AOp.call_ rfl rfl ((SuccR_spec f _ (by omega)).mono ?_))
  rintro _ _ ⟨rfl, rfl⟩
  refine AOps.step rfl rfl ?_
  refine AOp.of_run (ARun.mvL (.inr rfl) rfl) ?_
  refine AOps.nil ?_
  (repeat (first | refine AC.seq ?_ | refine AC.block ?_ | refine AC.skip ?_))
  refine AC.region ?_
  refine AOps.step rfl rfl ?_
  refine AOp.of_run (ARun.loadNL rfl rfl rfl) ?_
  refine AOps.step rfl rfl ?_
  refine AOp.of_run (ARun.mvL (.inl rfl) rfl) ?_
  refine AOps.step rfl rfl (AOp.call_ rfl rfl ((endsR_spec f _ z hne).mono ?_))
  rintro _ _ ⟨⟨w, rfl, hw⟩, rfl⟩
  refine AOps.step rfl rfl ?_
  refine AOp.of_run (ARun.not rfl rfl) ?_
  refine AOps.nil ?_
  (repeat (first | refine AC.seq ?_ | refine AC.block ?_ | refine AC.skip ?_)); refine AC.cond rfl (fun hc => ?_) (fun hc => ?_)
  · have hwf : w = false := by simpa using hc
    (repeat (first | refine AC.seq ?_ | refine AC.block ?_ | refine AC.skip ?_))
    refine AC.region ?_
    refine AOps.step rfl rfl ?_
    refine AOp.of_run (ARun.mvV (.inr rfl) rfl) ?_
    refine AOps.nil ?_
    refine AC.ret (ARes.one rfl (RV.V rfl) ⟨?_, rfl⟩)
    rw [chkE_no fun e => by have := hw.2 e.2.1; rw [hwf] at this; cases this]; rfl
  have hwt : w = true := by simpa using hc
  have hways := hw.1 hwt
  have hRI0 : RI f.parts.length (List.replicate f.values.toNat zPl) := fun x hx hm => by
    rw [List.eq_of_mem_replicate hx] at hm; cases hm
  have hmap0 : (List.replicate f.values.toNat zPl).map toPk = List.replicate f.values.toNat zPk := by rw [List.map_replicate]; rfl
  obtain ⟨hsim, hri⟩ := all_sim hRI0
  rw [hmap0] at hsim
  (repeat (first | refine AC.seq ?_ | refine AC.block ?_ | refine AC.skip ?_ | refine AC.exit ?_))
  (repeat (first | refine AC.seq ?_ | refine AC.block ?_ | refine AC.skip ?_))
  refine AC.region ?_
  refine AOps.step rfl rfl ?_
  refine AOp.of_run (ARun.loadNL rfl rfl rfl) ?_
  refine AOps.step rfl rfl (AOp.call_ rfl rfl ((places_spec f _ hsz.2.1 hsz.2.2 z).mono ?_))
  rintro _ _ ⟨rfl, ⟨L, hL, rfl⟩ | ⟨hno, x, rfl⟩⟩
  rotate_left
  · refine AOps.step rfl rfl ?_
    refine AOp.of_run (ARun.mvT (.inl rfl) rfl) ?_
    refine AOps.step rfl rfl (AOp.of_run (ARun.extract rfl rfl rfl) ?_)
    refine AOps.step rfl rfl ?_
    refine AOp.of_run (ARun.extract rfl rfl rfl) ?_
    refine AOps.step rfl rfl (AOp.of_run (ARun.assign rfl) ?_)
    refine AOps.step rfl rfl ?_
    refine AOp.of_run (ARun.mvV (.inr rfl) rfl) ?_
    refine AOps.nil ?_
    (repeat (first | refine AC.seq ?_ | refine AC.block ?_ | refine AC.skip ?_))
    refine AC.region ?_
    refine AOps.step rfl rfl ?_
    refine AOp.of_run (ARun.mvV (.inl rfl) rfl) ?_
    refine AOps.step rfl rfl ?_
    refine AOp.of_run (ARun.not rfl rfl) ?_
    refine AOps.nil ?_
    (repeat (first | refine AC.seq ?_ | refine AC.block ?_ | refine AC.skip ?_)); refine AC.cond rfl (fun hc => ?_) (fun hc => ?_)
    · (repeat (first | refine AC.seq ?_ | refine AC.block ?_ | refine AC.skip ?_))
      refine AC.region ?_
      refine AOps.step rfl rfl ?_
      refine AOp.of_run (ARun.mvV (.inr rfl) rfl) ?_
      refine AOps.nil ?_
      refine AC.ret (ARes.one rfl (RV.V rfl) ⟨?_, rfl⟩)
      rw [chkE_no fun e => by obtain ⟨L, hL, _⟩ := e.2.2; rw [hsim, hno] at hL; cases hL]; rfl
    · cases hc
  rw [hL] at hsim
  have hRI := hri L hL
  have hlen : f.values.toNat = L.length := by
    have h1 := foldlM_inv (I := fun K : List DPl => K.length = f.values.toNat) (g := partMk mkR) (l := f.parts.zipIdx) (s := List.replicate f.values.toNat zPl) (t := L) (fun s x t _ hs e => by
      unfold partMk at e
      cases hp : x.1.phis.foldlM (phiMk mkR x.2) s with
      | none => rw [hp] at e; cases e
      | some u =>
        rw [hp] at e
        have hu : u.length = f.values.toNat := foldlM_inv (I := fun K : List DPl => K.length = f.values.toNat) (fun s y t _ hs e => (mkR_len e).trans hs) hs hp
        refine foldlM_inv (I := fun K : List DPl => K.length = f.values.toNat) (fun s y t _ hs e => ?_) hu e
        unfold nodeMk at e
        split at e
        · split at e
          · injection e with e; exact e ▸ hs
          · exact (mkR_len e).trans hs
        · cases e) (by simp) hL
    exact h1.symm
  rw [hlen]
  refine AOps.step rfl rfl ?_
  refine AOp.of_run (ARun.mvT (.inl rfl) rfl) ?_
  refine AOps.step rfl rfl ?_
  refine AOp.of_run (ARun.extract rfl rfl rfl) ?_
  refine AOps.step rfl rfl ?_
  refine AOp.of_run (ARun.extract rfl rfl rfl) ?_
  refine AOps.step rfl rfl ?_
  refine AOp.of_run (ARun.mvL (.inr rfl) rfl) ?_
  refine AOps.step rfl rfl ?_
  refine AOp.of_run (ARun.mvV (.inr rfl) rfl) ?_
  refine AOps.nil ?_
  (repeat (first | refine AC.seq ?_ | refine AC.block ?_ | refine AC.skip ?_))
  refine AC.region ?_
  refine AOps.step rfl rfl ?_
  refine AOp.of_run (ARun.mvV (.inl rfl) rfl) ?_
  refine AOps.step rfl rfl ?_
  refine AOp.of_run (ARun.not rfl rfl) ?_
  refine AOps.nil ?_
  (repeat (first | refine AC.seq ?_ | refine AC.block ?_ | refine AC.skip ?_)); refine AC.cond rfl (fun hc => ?_) (fun hc => ?_)
  · cases hc
  have keyT : ∀ h1, Sp Try.prog 44 [eIss (succL f)] h1 (fun r h' => (∃ D : List (List Bool), r = eBss D ∧ D.length = (succL f).length ∧ ∀ a (ha : a < D.length), RowOK (succL f) a (succL f).length D[a]) ∧ h' = h1) := fun h1 =>
    Table_spec (succL f) h1 hs0 (by omega) (fun l hl => by have := succL_rows f l hl; omega)
  (repeat (first | refine AC.seq ?_ | refine AC.block ?_ | refine AC.skip ?_ | refine AC.exit ?_))
  (repeat (first | refine AC.seq ?_ | refine AC.block ?_ | refine AC.skip ?_))
  refine AC.drawnH [0, 1, 2, 3, 5, 7] [0] [0, 1, 2, 3, 4, 5, 6, 7] mixed (by kernel_rfl) ?_
  refine RunA.calm rfl rfl rfl rfl rfl (HSub.refl _) (fun _ hsub => ARun.loadNL rfl rfl rfl) ?_
  refine RunA.pure rfl rfl rfl rfl rfl (fun _ => ARun.mvL (.inl rfl) rfl) ?_
  refine RunA.pure rfl rfl rfl rfl rfl (fun _ => ARun.mvL (.inl rfl) rfl) ?_
  refine RunA.pure rfl rfl rfl rfl rfl (fun _ => ARun.mvL (.inl rfl) rfl) ?_
  refine RunA.op rfl rfl rfl rfl ?_
  refine AOp.call_ rfl rfl ((keyT _).mono ?_)
  rintro _ _ ⟨⟨D, rfl, hDl, hD⟩, rfl⟩; refine ⟨fun _ q => q, ?_⟩
  refine RunA.pure rfl rfl rfl rfl rfl (fun _ => ARun.build rfl) ?_
  refine RunA.op rfl rfl rfl rfl ?_
  refine AOp.boxL rfl rfl ?_
  refine ⟨fun _ q => q, ?_⟩
  refine RunA.pure rfl rfl rfl rfl rfl (fun _ => ARun.mvP (.inr rfl) rfl) ?_
  refine RunA.nil ?_
  have huse := usesR_D hways hRI hDl hD
  rw [hsl] at hDl
  have hRD : ∀ r ∈ D, r.length = D.length := fun r hr => by
    obtain ⟨a, ha, rfl⟩ := List.getElem_of_mem hr
    rw [(hD a ha).1, hsl, hDl]
  have hpd : ∀ i (hi : i < f.parts.length), ∀ a ∈ f.parts[i].pred, 0 ≤ a ∧ a < D.length := fun i hi a ha => by
    rw [← (hways.2 i hi).2.1] at ha
    have := predP_mem ha
    omega
  have hchk : chkP f ↔ usesP (okR L D) f := by
    rw [huse]
    constructor
    · rintro ⟨_, _, L', hL', hu⟩
      rw [hsim] at hL'
      obtain rfl := Option.some.inj hL'
      exact hu
    · intro hu
      exact ⟨hsz, hways, _, hsim, hu⟩
  (repeat (first | refine AC.seq ?_ | refine AC.block ?_ | refine AC.skip ?_))
  refine AC.region ?_
  refine AOps.step rfl rfl ?_
  refine AOp.of_run (ARun.mvV (.inr rfl) rfl) ?_
  refine AOps.nil ?_
  (repeat (first | refine AC.seq ?_ | refine AC.block ?_ | refine AC.skip ?_ | refine AC.exit ?_))
  rename_i h1
  refine AC.loop (fun m τ h' => ∃ i : Nat, i ≤ f.parts.length ∧ m = f.parts.length - i ∧ Slots τ [(1, .lp (eIr f) 0), (6, .lp (eC f L (succL f) D) 0), (7, eI i)] ∧ (∀ j (hj : j < f.parts.length), j < i → partR L D j f.parts[j]) ∧ h' = h1) f.parts.length ?_ ?_
  · exact ⟨0, Nat.zero_le _, rfl, ⟨rfl, rfl, rfl, trivial⟩, fun j _ hj => by omega, rfl⟩
  rintro m τ h' ⟨i, hi, rfl, hs, hall, rfl⟩
  obtain ⟨t1, rfl⟩ := hs.open_
  (repeat (first | refine AC.seq ?_ | refine AC.block ?_ | refine AC.skip ?_))
  refine AC.region ?_
  refine AOps.step rfl rfl ?_
  refine AOp.of_run (ARun.mvV (.inl rfl) rfl) ?_
  refine AOps.step rfl rfl ?_
  refine AOp.of_run (ARun.fieldAddrL rfl rfl) ?_
  refine AOps.step rfl rfl ?_
  refine AOp.of_run (ARun.loadL rfl rfl rfl) ?_
  refine AOps.step rfl rfl ?_
  refine AOp.of_run (ARun.lenL rfl rfl) ?_
  refine AOps.step rfl rfl ?_
  refine AOp.of_run (ARun.lss rfl rfl rfl) ?_
  refine AOps.nil ?_
  (repeat (first | refine AC.seq ?_ | refine AC.block ?_ | refine AC.skip ?_)); refine AC.cond rfl (fun hc => ?_) (fun hc => ?_)
  · have hlt : i < f.parts.length := by simpa using hc
    have zp := z.part _ (List.getElem_mem hlt)
    (repeat (first | refine AC.seq ?_ | refine AC.block ?_ | refine AC.skip ?_ | refine AC.exit ?_))
    (repeat (first | refine AC.seq ?_ | refine AC.block ?_ | refine AC.skip ?_))
    refine AC.region ?_
    refine AOps.step rfl rfl ?_
    refine AOp.of_run (ARun.mvP (.inl rfl) rfl) ?_
    refine AOps.step rfl rfl ?_
    refine AOp.of_run (ARun.mvV (.inl rfl) rfl) ?_
    refine AOps.step rfl rfl (AOp.call_ rfl rfl ((partR_spec f L (succL f) D i _ hlt (fun x hx hm => by have := hRI x hx hm; omega) hRD hDl.symm (hpd i hlt) ⟨zp.phis, zp.nodes, zp.pred⟩ (fun x hx => by have := zp.args x hx; omega)).mono ?_))
    rintro _ _ ⟨⟨q, rfl, hq⟩, rfl⟩
    refine AOps.step rfl rfl ?_
    refine AOp.of_run (ARun.not rfl rfl) ?_
    refine AOps.nil ?_
    (repeat (first | refine AC.seq ?_ | refine AC.block ?_ | refine AC.skip ?_)); refine AC.cond rfl (fun hc => ?_) (fun hc => ?_)
    · have hqf : q = false := by simpa using hc
      (repeat (first | refine AC.seq ?_ | refine AC.block ?_ | refine AC.skip ?_))
      refine AC.region ?_
      refine AOps.step rfl rfl ?_
      refine AOp.of_run (ARun.mvV (.inr rfl) rfl) ?_
      refine AOps.nil ?_
      refine AC.ret (ARes.one rfl (RV.V rfl) ⟨?_, rfl⟩)
      rw [chkE_no fun e => by
        have := hq.2 (hchk.1 e i hlt)
        rw [hqf] at this; cases this]; rfl
    · have hqt : q = true := by simpa using hc
      (repeat (first | refine AC.seq ?_ | refine AC.block ?_ | refine AC.skip ?_ | refine AC.exit ?_))
      (repeat (first | refine AC.seq ?_ | refine AC.block ?_ | refine AC.skip ?_))
      refine AC.region ?_
      refine AOps.step rfl rfl ?_
      refine AOp.of_run (ARun.mvV (.inl rfl) rfl) ?_
      refine AOps.step rfl rfl ?_
      refine AOp.of_run (ARun.add rfl rfl rfl) ?_
      refine AOps.step rfl rfl ?_
      refine AOp.of_run (ARun.mvV (.inr rfl) rfl) ?_
      refine AOps.nil ?_
      refine ⟨_, by omega, i + 1, hlt, rfl, ⟨rfl, rfl, eI_wrap (by omega) (by omega) (by omega), trivial⟩, fun j hj hji => ?_, rfl⟩
      rcases Nat.lt_or_ge j i with c | c
      · exact hall j hj c
      · obtain rfl : j = i := by omega
        exact hq.1 hqt
  have hge : i = f.parts.length := by simp at hc; omega
  subst hge
  (repeat (first | refine AC.seq ?_ | refine AC.block ?_ | refine AC.skip ?_ | refine AC.exit ?_))
  (repeat (first | refine AC.seq ?_ | refine AC.block ?_ | refine AC.skip ?_))
  refine AC.region ?_
  refine AOps.step rfl rfl ?_
  refine AOp.of_run (ARun.mvV (.inr rfl) rfl) ?_
  refine AOps.nil ?_
  refine AC.ret (ARes.one rfl (RV.V rfl) ⟨?_, rfl⟩)
  rw [chkE_yes (hchk.2 fun j hj => hall j hj hj)]; rfl
end Go.Proofs.Ytilanageangegaa

/- Walks of clevislaw20: small, heads, ChecksNone. -/
set_option linter.unusedVariables false
set_option linter.unusedSimpArgs false
namespace Go.Proofs.Ytilanageangegaa
open Go.Ab

theorem guardB_nil (l : DLay) (x : DNode) : guardB l [] x = false := by simp [guardB]
theorem freeN_nil (l : DLay) (x : DNode) : freeN l [] x = x := by unfold freeN; rw [guardB_nil]; rfl
theorem freeF_nil (l : DLay) (f : DIr) : freeF l [] f = f := by
  have h1 : ∀ p, freeP l [] p = p := fun p => by
    unfold freeP
    have : p.nodes.map (freeN l []) = p.nodes := by
      rw [show freeN l [] = id from funext (freeN_nil l)]; simp
    rw [this]
  unfold freeF
  have : f.parts.map (freeP l []) = f.parts := by rw [show freeP l [] = id from funext h1]; simp
  rw [this]
theorem goneN_none {l : DLay} {facts : List DFact} {ns : List DNode} (h : ∀ x ∈ ns, guardB l facts x = false) : goneN l facts ns = 0 := by
  unfold goneN
  rw [List.filter_eq_nil_iff.2 fun x hx => by rw [h x hx]; simp]; rfl
theorem goneP_none {l : DLay} {facts : List DFact} {ps : List DPart} (h : ∀ p ∈ ps, ∀ x ∈ p.nodes, guardB l facts x = false) : goneP l facts ps = 0 := by
  induction ps with
  | nil => rfl
  | cons p ps ih =>
    have h1 := ih fun q hq => h q (by simp [hq])
    unfold goneP at h1 ⊢
    rw [List.map_cons, List.sum_cons, goneN_none (h p (by simp)), h1]
theorem goneP_nil (l : DLay) (ps : List DPart) : goneP l [] ps = 0 := goneP_none fun _ _ x _ => guardB_nil l x
theorem guardB_off (l : DLay) (facts : List DFact) (x : DNode) : guardB l facts { x with guard := false } = false := by simp [guardB]
theorem guardB_free (l : DLay) (facts : List DFact) (x : DNode) : guardB l facts (freeN l facts x) = false := by
  unfold freeN
  cases h : guardB l facts x
  · rw [if_neg (by simp)]; exact h
  · rw [if_pos rfl]; exact guardB_off l facts x
theorem freeN_free (l : DLay) (facts : List DFact) (x : DNode) : freeN l facts (freeN l facts x) = freeN l facts x := by
  have h := guardB_free l facts x
  generalize freeN l facts x = y at *
  unfold freeN
  rw [h]; rfl
theorem freeF_free (l : DLay) (facts : List DFact) (f : DIr) : freeF l facts (freeF l facts f) = freeF l facts f := by
  unfold freeF
  have h1 : ∀ p, freeP l facts (freeP l facts p) = freeP l facts p := fun p => by
    unfold freeP
    simp only [List.map_map]
    congr 1
    apply List.map_congr_left
    intro x _
    exact freeN_free l facts x
  simp only [List.map_map]
  congr 1
  apply List.map_congr_left
  intro p _
  exact h1 p
theorem goneP_free (l : DLay) (facts : List DFact) (f : DIr) : goneP l facts (freeF l facts f).parts = 0 := goneP_none fun p hp x hx => by
  obtain ⟨q, _, rfl⟩ := List.mem_map.1 hp
  obtain ⟨y, _, rfl⟩ := List.mem_map.1 hx
  exact guardB_free l facts y

/-! ### Guards are nothing to the checks -/
theorem freeN_is (l : DLay) (facts : List DFact) (x : DNode) : ∃ b, freeN l facts x = { x with guard := b } := by
  unfold freeN; split
  · exact ⟨_, rfl⟩
  · exact ⟨x.guard, rfl⟩
theorem freeF_succ (l : DLay) (facts : List DFact) (f : DIr) : succL (freeF l facts f) = succL f := by
  unfold succL freeF
  simp only [List.map_map]
  rfl
theorem freeF_len (l : DLay) (facts : List DFact) (f : DIr) : (freeF l facts f).parts.length = f.parts.length := by simp [freeF]
theorem freeF_get (l : DLay) (facts : List DFact) (f : DIr) {i : Nat} (h : i < f.parts.length) (h2 : i < (freeF l facts f).parts.length) : (freeF l facts f).parts[i] = freeP l facts f.parts[i] := by simp [freeF]
theorem freeF_ways (l : DLay) (facts : List DFact) {f : DIr} (h : waysP f) : waysP (freeF l facts f) := by
  refine ⟨fun p hp => ?_, fun i hi => ?_⟩
  · obtain ⟨q, hq, rfl⟩ := List.mem_map.1 hp
    rw [freeF_len]
    exact h.1 q hq
  · have hi' : i < f.parts.length := by rw [freeF_len] at hi; exact hi
    rw [freeF_succ, freeF_get l facts f hi' hi]
    exact h.2 i hi'
theorem freeF_mk {α : Type} (mk : List α → Int → Int → Int → Option (List α)) (l : DLay) (facts : List DFact) (f : DIr) (L : List α) : allMk mk L (freeF l facts f) = allMk mk L f := by
  have hn : ∀ (i : Int) (L : List α) (x : DNode) (k : Nat), nodeMk mk i L (freeN l facts x, k) = nodeMk mk i L (x, k) := fun i L x k => by
    obtain ⟨b, hb⟩ := freeN_is l facts x
    rw [hb]; rfl
  have hp : ∀ (L : List α) (p : DPart) (k : Nat), partMk mk L (freeP l facts p, k) = partMk mk L (p, k) := fun L p k => by
    unfold partMk
    show ((freeP l facts p).phis.foldlM (phiMk mk k) L).bind _ = _
    show (p.phis.foldlM (phiMk mk k) L).bind _ = _
    congr 1
    funext L2
    show (p.nodes.map (freeN l facts)).zipIdx.foldlM (nodeMk mk k) L2 = _
    rw [List.zipIdx_map, List.foldlM_map]
    congr 1
    funext L3 x
    obtain ⟨x, j⟩ := x
    exact hn _ _ _ _
  unfold allMk
  show (f.parts.map (freeP l facts)).zipIdx.foldlM (partMk mk) L = _
  rw [List.zipIdx_map, List.foldlM_map]
  congr 1
  funext L3 x
  obtain ⟨x, j⟩ := x
  exact hp _ _ _
theorem freeF_uses (l : DLay) (facts : List DFact) {f : DIr} {ok : Int → Int → Int → Prop} (h : usesP ok f) : usesP ok (freeF l facts f) := fun i hi => by
  have hi' : i < f.parts.length := by rw [freeF_len] at hi; exact hi
  rw [freeF_get l facts f hi' hi]
  obtain ⟨h1, h2, h3⟩ := h i hi'
  refine ⟨h1, fun k hk id hid => ?_, h3⟩
  have hk' : k < f.parts[i].nodes.length := by simpa [freeP] using hk
  have e : (freeP l facts f.parts[i]).nodes[k] = freeN l facts f.parts[i].nodes[k] := by simp [freeP]
  rw [e] at hid
  obtain ⟨b, hb⟩ := freeN_is l facts f.parts[i].nodes[k]
  rw [hb] at hid
  exact h2 k hk' id hid
theorem freeF_chk (l : DLay) (facts : List DFact) {f : DIr} (h : chkP f) : chkP (freeF l facts f) := by
  obtain ⟨h1, h2, L, h3, h4⟩ := h
  refine ⟨?_, freeF_ways l facts h2, L, ?_, ?_⟩
  · rw [freeF_len]; exact h1
  · rw [freeF_mk]; exact h3
  · rw [freeF_succ]; exact freeF_uses l facts h4
theorem freeF_sz (l : DLay) (facts : List DFact) {f : DIr} (z : Sz f) : Sz (freeF l facts f) := by
  refine ⟨by rw [freeF_len]; exact z.parts, fun p hp => ?_⟩
  obtain ⟨q, hq, rfl⟩ := List.mem_map.1 hp
  have zq := z.part q hq
  refine ⟨zq.phis, by simpa [freeP] using zq.nodes, zq.pred, zq.frm, fun x hx => ?_, fun x hx => ?_⟩
  · obtain ⟨y, hy, rfl⟩ := List.mem_map.1 hx
    obtain ⟨b, hb⟩ := freeN_is l facts y
    rw [hb]; exact zq.args y hy
  · obtain ⟨y, hy, rfl⟩ := List.mem_map.1 hx
    obtain ⟨b, hb⟩ := freeN_is l facts y
    rw [hb]; exact zq.imm y hy

def smallB (f : DIr) : Bool := decide (f.parts.length ≤ 100) && decide (f.values ≤ 1000)
set_option maxRecDepth 10000 in
theorem small_spec (f : DIr) (h : AHeap) : Sp Try.prog 10 [.agg (eIr f)] h (fun r h' => r = eB (smallB f) ∧ h' = h) := by
  refine Sp.of Try.func10 rfl rfl (by show 1 ≤ 12; decide) ?_
  (repeat (first | refine AC.seq ?_ | refine AC.block ?_ | refine AC.skip ?_))
  refine AC.region ?_
  refine AOps.step rfl rfl ?_
  refine AOp.boxL rfl rfl ?_
  refine AOps.step rfl rfl ?_
  refine AOp.of_run (ARun.mvV (.inr rfl) rfl) ?_
  refine AOps.nil ?_
  unfold smallB
  (repeat (first | refine AC.seq ?_ | refine AC.block ?_ | refine AC.skip ?_))
  refine AC.region ?_
  refine AOps.step rfl rfl ?_
  refine AOp.of_run (ARun.fieldAddrL rfl rfl) ?_
  refine AOps.step rfl rfl ?_
  refine AOp.of_run (ARun.loadL rfl rfl rfl) ?_
  refine AOps.step rfl rfl ?_
  refine AOp.of_run (ARun.lenL rfl rfl) ?_
  refine AOps.step rfl rfl ?_
  refine AOp.of_run (ARun.leq rfl rfl rfl) ?_
  rw [decide_eq_decide.2 (show ((f.parts.length : Int) ≤ 100 ↔ f.parts.length ≤ 100) from by omega)]
  cases g : decide (f.parts.length ≤ 100)
  · refine AOps.step rfl rfl ?_
    refine AOp.of_run (ARun.mvV (.inl rfl) rfl) ?_
    refine AOps.passU rfl rfl (by decide) rfl rfl rfl ?_
    refine AOps.passU rfl rfl (by decide) rfl rfl rfl ?_
    refine AOps.passU rfl rfl (by decide) rfl rfl rfl ?_
    refine AOps.step rfl rfl (AOp.of_run (ARun.pickF rfl rfl) ?_)
    refine AOps.step rfl rfl ?_
    refine AOp.of_run (ARun.mvV (.inr rfl) rfl) ?_
    refine AOps.nil ?_
    refine AC.ret (ARes.one rfl (RV.V rfl) ⟨rfl, rfl⟩)
  · refine AOps.step rfl rfl ?_
    refine AOp.of_run (ARun.mvV (.inl rfl) rfl) ?_
    refine AOps.want rfl rfl (by decide) rfl ?_
    refine AOps.step rfl rfl ?_
    refine AOp.of_run (ARun.fieldAddrL rfl rfl) ?_
    refine AOps.want rfl rfl (by decide) rfl ?_
    refine AOps.step rfl rfl ?_
    refine AOp.of_run (ARun.loadL rfl rfl rfl) ?_
    refine AOps.want rfl rfl (by decide) rfl ?_
    refine AOps.step rfl rfl ?_
    refine AOp.of_run (ARun.leq rfl rfl rfl) ?_
    refine AOps.step rfl rfl (AOp.of_run (ARun.pickT rfl rfl) ?_)
    refine AOps.step rfl rfl ?_
    refine AOp.of_run (ARun.mvV (.inr rfl) rfl) ?_
    refine AOps.nil ?_
    refine AC.ret (ARes.one rfl (RV.V rfl) ⟨rfl, rfl⟩)

def nofL : DLay := ⟨⟨0, false⟩, []⟩
def nofI : DIr := ⟨[], 0⟩
theorem VR.nil_ls {w : World} {h : AHeap} {v : Value} (r : VR w h (.v (.slice none 0 0)) v) : VR w h (.ls 0 []) v := by rw [r.inv_v]; exact .ls0 _ _
theorem VR.agg_map {w : World} {h : AHeap} {cs cs' : List AVal} {v : Value} (r : VR w h (.agg cs) v) (hl : cs.length = cs'.length) (hc : ∀ i (h1 : i < cs.length) (h2 : i < cs'.length) u, VR w h cs[i] u → VR w h cs'[i] u) : VR w h (.agg cs') v := by
  cases r with
  | agg cs vs hl2 hv => exact .agg cs' vs (hl2.trans hl) fun i h1 h2 => hc i (by omega) h1 _ (hv i (by omega) h2)
theorem not_chk_nof : ¬ chkP nofI := fun h => by have := h.1.1.1; simp [nofI] at this
theorem sz_nof : Sz nofI := ⟨by simp [nofI], fun p hp => by simp [nofI] at hp⟩
theorem lay_nof {w : World} {h : AHeap} {v : Value} (r : VR w h (.agg [eI 0, eB false, nilS]) v) : VR w h (.agg (eLay nofL)) v := VR.agg_map r rfl fun i h1 h2 u ru => by
  match i, h1, h2 with
  | 0, _, _ => exact ru
  | 1, _, _ => exact ru
  | 2, _, _ => exact VR.nil_ls ru
theorem ir_nof {w : World} {h : AHeap} {v : Value} (r : VR w h (.agg [nilS, eI 0]) v) : VR w h (.agg (eIr nofI)) v := VR.agg_map r rfl fun i h1 h2 u ru => by
  match i, h1, h2 with
  | 0, _, _ => exact VR.nil_ls ru
  | 1, _, _ => exact ru
theorem Free_nof (h : AHeap) : Sp Try.prog 12 [.agg [eI 0, eB false, nilS], .agg [nilS, eI 0], nilS] h (fun r h' => r = .tup [.agg [nilS, eI 0], eI 0, eI 160] ∧ h' = h) := by
  have key : Sp Try.prog 12 [.agg [eI 0, eB false, nilS], .agg [nilS, eI 0], nilS] h (fun r h' => FreeR nofL nofI [] r ∧ h' = h) := by
    refine Sp.args (args' := [.agg (eLay nofL), .agg (eIr nofI), eFacts []]) (Free_spec nofL nofI [] h sz_nof (by simp [nofL]) (by simp)) (by rfl) ?_
    intro w i h1 h2 v r
    match i, h1, h2 with
    | 0, _, _ => exact lay_nof r
    | 1, _, _ => exact ir_nof r
    | 2, _, _ => exact VR.nil_ls r
  refine key.mono ?_
  rintro r h' ⟨⟨e, _⟩ | ⟨_, e⟩, rfl⟩
  · exact absurd e not_chk_nof
  · exact ⟨e, rfl⟩
theorem Proves_nof (fa : DFact) (size : Int) (write : Bool) (h : AHeap) : Sp Try.prog 16 [.agg [eI 0, eB false, nilS], .agg (eFact fa), eI size, eB write] h (fun r h' => r = eB (provB nofL fa size write) ∧ h' = h) := by
  refine Sp.args (args' := [.agg (eLay nofL), .agg (eFact fa), eI size, eB write]) (Proves_spec nofL fa size write h (by simp [nofL])) (by rfl) ?_
  intro w i h1 h2 v r
  match i, h1, h2 with
  | 0, _, _ => exact lay_nof r
  | 1, _, _ => exact r
  | 2, _, _ => exact r
  | 3, _, _ => exact r
theorem prov1 : provB nofL ⟨true, 2, 504, 504⟩ 8 true = true := by decide
theorem prov2 : provB nofL ⟨true, 2, 504, 505⟩ 8 true = false := by decide
theorem prov3 : provB nofL ⟨false, 0, 0, 0⟩ 1 false = false := by decide

set_option maxRecDepth 10000 in
theorem heads20_spec (h : AHeap) : Sp Try.prog 11 [] h (fun r h' => r = eB true ∧ h' = h) := by
  refine Sp.of Try.func11 rfl rfl (by show 0 ≤ 32; decide) ?_
  (repeat (first | refine AC.seq ?_ | refine AC.block ?_ | refine AC.skip ?_))
  refine AC.region ?_
  refine AOps.step rfl rfl ?_
  refine AOp.of_run (ARun.mvV (.inr rfl) rfl) ?_
  refine AOps.nil ?_
  (repeat (first | refine AC.seq ?_ | refine AC.block ?_ | refine AC.skip ?_))
  refine AC.region ?_
  refine AOps.step rfl rfl ?_
  refine AOp.of_run (ARun.build rfl) ?_
  refine AOps.step rfl rfl (AOp.alloc rfl (fun b1 hb1 => ?_))
  refine AOps.step rfl rfl (AOp.store rfl rfl (hset_same _ _ _) rfl ?_)
  refine AOps.nil ?_
  refine AC.le (Le.freezeNew (d := 1) hb1 rfl) ?_
  (repeat (first | refine AC.seq ?_ | refine AC.block ?_ | refine AC.skip ?_))
  refine AC.region ?_
  refine AOps.step rfl rfl ?_
  refine AOp.of_run (ARun.build rfl) ?_
  refine AOps.step rfl rfl ?_
  refine AOp.of_run (ARun.build rfl) ?_
  refine AOps.step rfl rfl (AOp.call_ rfl rfl ((Free_nof _).mono ?_))
  rintro _ _ ⟨rfl, rfl⟩
  refine AOps.step rfl rfl ?_
  refine AOp.of_run (ARun.mvT (.inl rfl) rfl) ?_
  refine AOps.step rfl rfl ?_
  refine AOp.of_run (ARun.extract rfl rfl rfl) ?_
  refine AOps.step rfl rfl ?_
  refine AOp.of_run (ARun.extract rfl rfl rfl) ?_
  refine AOps.step rfl rfl ?_
  refine AOp.of_run (ARun.extract rfl rfl rfl) ?_
  refine AOps.step rfl rfl (AOp.alloc rfl (fun b2 hb2 => ?_))
  refine AOps.step rfl rfl (AOp.store rfl rfl (hset_same _ _ _) rfl ?_)
  refine AOps.step rfl rfl ?_
  refine AOp.of_run (ARun.mvV (.inr rfl) rfl) ?_
  refine AOps.step rfl rfl ?_
  refine AOp.of_run (ARun.mvV (.inr rfl) rfl) ?_
  refine AOps.nil ?_
  refine AC.le (Le.freezeNew (d := 2) hb2 rfl) ?_
  (repeat (first | refine AC.seq ?_ | refine AC.block ?_ | refine AC.skip ?_))
  refine AC.region ?_
  refine AOps.step rfl rfl ?_
  refine AOp.of_run (ARun.build rfl) ?_
  refine AOps.step rfl rfl ?_
  refine AOp.of_run (ARun.loadNL rfl rfl rfl) ?_
  refine AOps.step rfl rfl (AOp.call_ rfl rfl ((Proves_nof ⟨true, 2, 504, 504⟩ 8 true _).mono ?_))
  rintro _ _ ⟨rfl, rfl⟩
  rw [prov1]
  refine AOps.step rfl rfl ?_
  refine AOp.of_run (ARun.mvV (.inl rfl) rfl) ?_
  refine AOps.want rfl rfl (by decide) rfl ?_
  refine AOps.step rfl rfl ?_
  refine AOp.of_run (ARun.build rfl) ?_
  refine AOps.want rfl rfl (by decide) rfl ?_
  refine AOps.step rfl rfl ?_
  refine AOp.of_run (ARun.build rfl) ?_
  refine AOps.want rfl rfl (by decide) rfl ?_
  refine AOps.step rfl rfl (AOp.call_ rfl rfl ((Proves_nof ⟨true, 2, 504, 505⟩ 8 true _).mono ?_))
  rintro _ _ ⟨rfl, rfl⟩
  rw [prov2]
  refine AOps.want rfl rfl (by decide) rfl ?_
  refine AOps.step rfl rfl ?_
  refine AOp.of_run (ARun.not rfl rfl) ?_
  refine AOps.step rfl rfl (AOp.of_run (ARun.pickT rfl rfl) ?_)
  refine AOps.step rfl rfl ?_
  refine AOp.of_run (ARun.mvV (.inl rfl) rfl) ?_
  refine AOps.want rfl rfl (by decide) rfl ?_
  refine AOps.step rfl rfl ?_
  refine AOp.of_run (ARun.build rfl) ?_
  refine AOps.want rfl rfl (by decide) rfl ?_
  refine AOps.step rfl rfl ?_
  refine AOp.of_run (ARun.build rfl) ?_
  refine AOps.want rfl rfl (by decide) rfl ?_
  refine AOps.step rfl rfl (AOp.call_ rfl rfl ((Proves_nof ⟨false, 0, 0, 0⟩ 1 false _).mono ?_))
  rintro _ _ ⟨rfl, rfl⟩
  rw [prov3]
  refine AOps.want rfl rfl (by decide) rfl ?_
  refine AOps.step rfl rfl ?_
  refine AOp.of_run (ARun.not rfl rfl) ?_
  refine AOps.step rfl rfl (AOp.of_run (ARun.pickT rfl rfl) ?_)
  refine AOps.step rfl rfl ?_
  refine AOp.of_run (ARun.mvV (.inl rfl) rfl) ?_
  refine AOps.want rfl rfl (by decide) rfl ?_
  refine AOps.step rfl rfl ?_
  refine AOp.of_run (ARun.mvV (.inl rfl) rfl) ?_
  refine AOps.want rfl rfl (by decide) rfl ?_
  refine AOps.step rfl rfl ?_
  refine AOp.of_run (ARun.eql rfl rfl rfl) ?_
  refine AOps.step rfl rfl (AOp.of_run (ARun.pickT rfl rfl) ?_)
  refine AOps.step rfl rfl ?_
  refine AOp.of_run (ARun.mvV (.inr rfl) rfl) ?_
  refine AOps.nil ?_
  refine AC.ret (ARes.one rfl (RV.V rfl) ⟨rfl, rfl⟩)

set_option maxHeartbeats 1000000 in
set_option maxRecDepth 10000 in
theorem ChecksNone_spec (l : DLay) (f : DIr) (facts : List DFact) (h : AHeap) (zp : ∀ p ∈ f.parts, SzP p) (hm : l.maps.length ≤ 1000000) (hfa : facts.length ≤ 2000000) :
    Sp Try.prog 3 [.agg (eLay l), .agg (eIr f), eFacts facts] h (fun r h' => r = eB true ∧ h' = h) := by
  refine Sp.of Try.func3 rfl rfl (by show 3 ≤ 87; decide) ?_
  (repeat (first | refine AC.seq ?_ | refine AC.block ?_ | refine AC.skip ?_))
  refine AC.region ?_
  refine AOps.step rfl rfl ?_
  refine AOp.boxL rfl rfl ?_
  refine AOps.step rfl rfl ?_
  refine AOp.boxL rfl rfl ?_
  refine AOps.step rfl rfl ?_
  refine AOp.of_run (ARun.mvV (.inr rfl) rfl) ?_
  refine AOps.nil ?_
  (repeat (first | refine AC.seq ?_ | refine AC.block ?_ | refine AC.skip ?_))
  refine AC.region ?_
  refine AOps.step rfl rfl ?_
  refine AOp.of_run (ARun.loadNL rfl rfl rfl) ?_
  refine AOps.step rfl rfl (AOp.call_ rfl rfl ((small_spec f _).mono ?_))
  rintro _ _ ⟨rfl, rfl⟩
  cases hsm : smallB f
  · refine AOps.step rfl rfl ?_
    refine AOp.of_run (ARun.not rfl rfl) ?_
    refine AOps.nil ?_
    (repeat (first | refine AC.seq ?_ | refine AC.block ?_ | refine AC.skip ?_)); refine AC.cond rfl (fun hc => ?_) (fun hc => ?_)
    case refine_2 => cases hc
    (repeat (first | refine AC.seq ?_ | refine AC.block ?_ | refine AC.skip ?_ | refine AC.exit ?_))
    (repeat (first | refine AC.seq ?_ | refine AC.block ?_ | refine AC.skip ?_))
    refine AC.region ?_
    refine AOps.step rfl rfl (AOp.call_ rfl rfl ((heads20_spec _).mono ?_))
    rintro _ _ ⟨rfl, rfl⟩
    refine AOps.step rfl rfl ?_
    refine AOp.of_run (ARun.mvV (.inr rfl) rfl) ?_
    refine AOps.nil ?_
    refine AC.ret (ARes.one rfl (RV.V rfl) ⟨rfl, rfl⟩)
  have z : Sz f := by
    unfold smallB at hsm
    simp only [Bool.and_eq_true, decide_eq_true_eq] at hsm
    exact ⟨by omega, zp⟩
  refine AOps.step rfl rfl ?_
  refine AOp.of_run (ARun.not rfl rfl) ?_
  refine AOps.nil ?_
  (repeat (first | refine AC.seq ?_ | refine AC.block ?_ | refine AC.skip ?_)); refine AC.cond rfl (fun hc => ?_) (fun hc => ?_)
  · cases hc
  have keyN : ∀ h1, Sp Try.prog 12 [.agg (eLay l), .agg (eIr f), nilS] h1 (fun r h' => FreeR l f [] r ∧ h' = h1) := fun h1 =>
    Sp.args (args' := [.agg (eLay l), .agg (eIr f), eFacts []]) (Free_spec l f [] h1 z hm (by simp)) (by rfl) (fun w i h1 h2 v r => by
      match i, h1, h2 with
      | 0, _, _ => exact r
      | 1, _, _ => exact r
      | 2, _, _ => exact VR.nil_ls r)
  (repeat (first | refine AC.seq ?_ | refine AC.block ?_ | refine AC.skip ?_ | refine AC.exit ?_))
  (repeat (first | refine AC.seq ?_ | refine AC.block ?_ | refine AC.skip ?_))
  refine AC.region ?_
  refine AOps.step rfl rfl ?_
  refine AOp.of_run (ARun.loadNL rfl rfl rfl) ?_
  refine AOps.step rfl rfl ?_
  refine AOp.of_run (ARun.loadNL rfl rfl rfl) ?_
  refine AOps.step rfl rfl (AOp.call_ rfl rfl ((keyN _).mono ?_))
  rintro _ _ ⟨⟨hchk, rfl⟩ | ⟨hchk, rfl⟩, rfl⟩
  rotate_left
  · refine AOps.step rfl rfl ?_
    refine AOp.of_run (ARun.mvT (.inl rfl) rfl) ?_
    refine AOps.step rfl rfl ?_
    refine AOp.of_run (ARun.extract rfl rfl rfl) ?_
    refine AOps.step rfl rfl ?_
    refine AOp.of_run (ARun.extract rfl rfl rfl) ?_
    refine AOps.step rfl rfl ?_
    refine AOp.of_run (ARun.extract rfl rfl rfl) ?_
    refine AOps.step rfl rfl (AOp.alloc rfl (fun b7 hb7 => ?_))
    refine AOps.step rfl rfl (AOp.store rfl rfl (hset_same _ _ _) rfl ?_)
    refine AOps.step rfl rfl ?_
    refine AOp.of_run (ARun.mvV (.inr rfl) rfl) ?_
    refine AOps.step rfl rfl ?_
    refine AOp.of_run (ARun.mvV (.inr rfl) rfl) ?_
    refine AOps.nil ?_
    refine AC.le (Le.freezeNew (d := 7) hb7 rfl) ?_
    (repeat (first | refine AC.seq ?_ | refine AC.block ?_ | refine AC.skip ?_))
    refine AC.region ?_
    refine AOps.step rfl rfl ?_
    refine AOp.of_run (ARun.loadNL rfl rfl rfl) ?_
    refine AOps.step rfl rfl ?_
    refine AOp.of_run (ARun.loadNL rfl rfl rfl) ?_
    refine AOps.step rfl rfl ?_
    refine AOp.of_run (ARun.mvL (.inl rfl) rfl) ?_
    refine AOps.step rfl rfl (AOp.call_ rfl rfl ((Free_spec l f facts _ z hm hfa).mono ?_))
    rintro _ _ ⟨⟨e, _⟩ | ⟨_, rfl⟩, rfl⟩
    · exact absurd e hchk
    refine AOps.step rfl rfl ?_
    refine AOp.of_run (ARun.mvT (.inl rfl) rfl) ?_
    refine AOps.step rfl rfl ?_
    refine AOp.of_run (ARun.extract rfl rfl rfl) ?_
    refine AOps.step rfl rfl ?_
    refine AOp.of_run (ARun.extract rfl rfl rfl) ?_
    refine AOps.step rfl rfl ?_
    refine AOp.of_run (ARun.extract rfl rfl rfl) ?_
    refine AOps.step rfl rfl (AOp.alloc rfl (fun b10 hb10 => ?_))
    refine AOps.step rfl rfl (AOp.store rfl rfl (hset_same _ _ _) rfl ?_)
    refine AOps.step rfl rfl ?_
    refine AOp.of_run (ARun.mvV (.inr rfl) rfl) ?_
    refine AOps.step rfl rfl ?_
    refine AOp.of_run (ARun.mvV (.inr rfl) rfl) ?_
    refine AOps.nil ?_
    refine AC.le (Le.freezeNew (d := 10) hb10 rfl) ?_
    (repeat (first | refine AC.seq ?_ | refine AC.block ?_ | refine AC.skip ?_))
    refine AC.region ?_
    refine AOps.step rfl rfl ?_
    refine AOp.of_run (ARun.mvV (.inl rfl) rfl) ?_
    refine AOps.step rfl rfl ?_
    refine AOp.of_run (ARun.neq rfl rfl rfl) ?_
    refine AOps.nil ?_
    (repeat (first | refine AC.seq ?_ | refine AC.block ?_ | refine AC.skip ?_)); refine AC.cond rfl (fun hc => ?_) (fun hc => ?_)
    case refine_2 => cases hc
    (repeat (first | refine AC.seq ?_ | refine AC.block ?_ | refine AC.skip ?_))
    refine AC.region ?_
    refine AOps.step rfl rfl ?_
    refine AOp.of_run (ARun.mvV (.inl rfl) rfl) ?_
    refine AOps.step rfl rfl ?_
    refine AOp.of_run (ARun.mvV (.inl rfl) rfl) ?_
    refine AOps.step rfl rfl ?_
    refine AOp.of_run (ARun.eql rfl rfl rfl) ?_
    refine AOps.step rfl rfl ?_
    refine AOp.of_run (ARun.mvV (.inl rfl) rfl) ?_
    refine AOps.want rfl rfl (by decide) rfl ?_
    refine AOps.step rfl rfl ?_
    refine AOp.of_run (ARun.mvV (.inl rfl) rfl) ?_
    refine AOps.want rfl rfl (by decide) rfl ?_
    refine AOps.step rfl rfl ?_
    refine AOp.of_run (ARun.eql rfl rfl rfl) ?_
    refine AOps.step rfl rfl (AOp.of_run (ARun.pickT rfl rfl) ?_)
    refine AOps.step rfl rfl ?_
    refine AOp.of_run (ARun.mvV (.inl rfl) rfl) ?_
    refine AOps.want rfl rfl (by decide) rfl ?_
    refine AOps.step rfl rfl ?_
    refine AOp.of_run (ARun.mvV (.inl rfl) rfl) ?_
    refine AOps.want rfl rfl (by decide) rfl ?_
    refine AOps.step rfl rfl ?_
    refine AOp.of_run (ARun.eql rfl rfl rfl) ?_
    refine AOps.step rfl rfl (AOp.of_run (ARun.pickT rfl rfl) ?_)
    refine AOps.step rfl rfl ?_
    refine AOp.of_run (ARun.mvV (.inl rfl) rfl) ?_
    refine AOps.want rfl rfl (by decide) rfl ?_
    refine AOps.step rfl rfl (AOp.call_ rfl rfl ((heads20_spec _).mono ?_))
    rintro _ _ ⟨rfl, rfl⟩
    refine AOps.step rfl rfl (AOp.of_run (ARun.pickT rfl rfl) ?_)
    refine AOps.step rfl rfl ?_
    refine AOp.of_run (ARun.mvV (.inr rfl) rfl) ?_
    refine AOps.nil ?_
    refine AC.ret (ARes.one rfl (RV.V rfl) ⟨rfl, rfl⟩)
  rw [freeF_nil, goneP_nil]
  refine AOps.step rfl rfl ?_
  refine AOp.of_run (ARun.mvT (.inl rfl) rfl) ?_
  refine AOps.step rfl rfl ?_
  refine AOp.of_run (ARun.extract rfl rfl rfl) ?_
  refine AOps.step rfl rfl ?_
  refine AOp.of_run (ARun.extract rfl rfl rfl) ?_
  refine AOps.step rfl rfl ?_
  refine AOp.of_run (ARun.extract rfl rfl rfl) ?_
  refine AOps.step rfl rfl (AOp.alloc rfl (fun b7 hb7 => ?_))
  refine AOps.step rfl rfl (AOp.store rfl rfl (hset_same _ _ _) rfl ?_)
  refine AOps.step rfl rfl ?_
  refine AOp.of_run (ARun.mvV (.inr rfl) rfl) ?_
  refine AOps.step rfl rfl ?_
  refine AOp.of_run (ARun.mvV (.inr rfl) rfl) ?_
  refine AOps.nil ?_
  refine AC.le (Le.freezeNew (d := 7) hb7 rfl) ?_
  (repeat (first | refine AC.seq ?_ | refine AC.block ?_ | refine AC.skip ?_))
  refine AC.region ?_
  refine AOps.step rfl rfl ?_
  refine AOp.of_run (ARun.loadNL rfl rfl rfl) ?_
  refine AOps.step rfl rfl ?_
  refine AOp.of_run (ARun.loadNL rfl rfl rfl) ?_
  refine AOps.step rfl rfl ?_
  refine AOp.of_run (ARun.mvL (.inl rfl) rfl) ?_
  refine AOps.step rfl rfl (AOp.call_ rfl rfl ((Free_spec l f facts _ z hm hfa).mono ?_))
  rintro _ _ ⟨⟨_, rfl⟩ | ⟨e, _⟩, rfl⟩
  rotate_left
  · exact absurd hchk e
  have z2 := freeF_sz l facts z
  have hchk2 := freeF_chk l facts hchk
  have hfree := freeF_free l facts f
  have hgone := goneP_free l facts f
  generalize hB : freeF l facts f = B at *
  refine AOps.step rfl rfl ?_
  refine AOp.of_run (ARun.mvT (.inl rfl) rfl) ?_
  refine AOps.step rfl rfl ?_
  refine AOp.of_run (ARun.extract rfl rfl rfl) ?_
  refine AOps.step rfl rfl ?_
  refine AOp.of_run (ARun.extract rfl rfl rfl) ?_
  refine AOps.step rfl rfl ?_
  refine AOp.of_run (ARun.extract rfl rfl rfl) ?_
  refine AOps.step rfl rfl (AOp.alloc rfl (fun b10 hb10 => ?_))
  refine AOps.step rfl rfl (AOp.store rfl rfl (hset_same _ _ _) rfl ?_)
  refine AOps.step rfl rfl ?_
  refine AOp.of_run (ARun.mvV (.inr rfl) rfl) ?_
  refine AOps.step rfl rfl ?_
  refine AOp.of_run (ARun.mvV (.inr rfl) rfl) ?_
  refine AOps.nil ?_
  refine AC.le (Le.freezeNew (d := 10) hb10 rfl) ?_
  (repeat (first | refine AC.seq ?_ | refine AC.block ?_ | refine AC.skip ?_))
  refine AC.region ?_
  refine AOps.step rfl rfl ?_
  refine AOp.of_run (ARun.mvV (.inl rfl) rfl) ?_
  refine AOps.step rfl rfl ?_
  refine AOp.of_run (ARun.neq rfl rfl rfl) ?_
  refine AOps.nil ?_
  (repeat (first | refine AC.seq ?_ | refine AC.block ?_ | refine AC.skip ?_)); refine AC.cond rfl (fun hc => ?_) (fun hc => ?_)
  · cases hc
  (repeat (first | refine AC.seq ?_ | refine AC.block ?_ | refine AC.skip ?_ | refine AC.exit ?_))
  (repeat (first | refine AC.seq ?_ | refine AC.block ?_ | refine AC.skip ?_))
  refine AC.region ?_
  refine AOps.step rfl rfl ?_
  refine AOp.of_run (ARun.loadNL rfl rfl rfl) ?_
  refine AOps.step rfl rfl ?_
  refine AOp.of_run (ARun.loadNL rfl rfl rfl) ?_
  refine AOps.step rfl rfl ?_
  refine AOp.of_run (ARun.mvL (.inl rfl) rfl) ?_
  refine AOps.step rfl rfl (AOp.call_ rfl rfl ((Free_spec l B facts _ z2 hm hfa).mono ?_))
  rintro _ _ ⟨⟨_, rfl⟩ | ⟨e, _⟩, rfl⟩
  rotate_left
  · exact absurd hchk2 e
  rw [hfree, hgone]
  refine AOps.step rfl rfl ?_
  refine AOp.of_run (ARun.mvT (.inl rfl) rfl) ?_
  refine AOps.step rfl rfl ?_
  refine AOp.of_run (ARun.extract rfl rfl rfl) ?_
  refine AOps.step rfl rfl ?_
  refine AOp.of_run (ARun.extract rfl rfl rfl) ?_
  refine AOps.step rfl rfl ?_
  refine AOp.of_run (ARun.extract rfl rfl rfl) ?_
  refine AOps.step rfl rfl (AOp.alloc rfl (fun b13 hb13 => ?_))
  refine AOps.step rfl rfl (AOp.store rfl rfl (hset_same _ _ _) rfl ?_)
  refine AOps.step rfl rfl ?_
  refine AOp.of_run (ARun.mvV (.inr rfl) rfl) ?_
  refine AOps.step rfl rfl ?_
  refine AOp.of_run (ARun.mvV (.inr rfl) rfl) ?_
  refine AOps.nil ?_
  refine AC.le (Le.freezeNew (d := 13) hb13 rfl) ?_
  (repeat (first | refine AC.seq ?_ | refine AC.block ?_ | refine AC.skip ?_))
  refine AC.region ?_
  refine AOps.step rfl rfl ?_
  refine AOp.of_run (ARun.mvV (.inl rfl) rfl) ?_
  refine AOps.step rfl rfl ?_
  refine AOp.of_run (ARun.eql rfl rfl rfl) ?_
  refine AOps.step rfl rfl ?_
  refine AOp.of_run (ARun.mvV (.inl rfl) rfl) ?_
  refine AOps.want rfl rfl (by decide) rfl ?_
  refine AOps.step rfl rfl ?_
  refine AOp.of_run (ARun.loadNL rfl rfl rfl) ?_
  refine AOps.want rfl rfl (by decide) rfl ?_
  refine AOps.step rfl rfl ?_
  refine AOp.of_run (ARun.loadNL rfl rfl rfl) ?_
  refine AOps.want rfl rfl (by decide) rfl ?_
  refine AOps.step rfl rfl (AOp.call_ rfl rfl ((SameR_spec f f _ z).mono ?_))
  rintro _ _ ⟨rfl, rfl⟩
  rw [decide_eq_true (Eq.refl f)]
  refine AOps.step rfl rfl (AOp.of_run (ARun.pickT rfl rfl) ?_)
  refine AOps.step rfl rfl ?_
  refine AOp.of_run (ARun.mvV (.inl rfl) rfl) ?_
  refine AOps.want rfl rfl (by decide) rfl ?_
  refine AOps.step rfl rfl ?_
  refine AOp.of_run (ARun.mvV (.inl rfl) rfl) ?_
  refine AOps.want rfl rfl (by decide) rfl ?_
  refine AOps.step rfl rfl ?_
  refine AOp.of_run (ARun.eql rfl rfl rfl) ?_
  refine AOps.step rfl rfl (AOp.of_run (ARun.pickT rfl rfl) ?_)
  refine AOps.step rfl rfl ?_
  refine AOp.of_run (ARun.mvV (.inl rfl) rfl) ?_
  refine AOps.want rfl rfl (by decide) rfl ?_
  refine AOps.step rfl rfl ?_
  refine AOp.of_run (ARun.mvV (.inl rfl) rfl) ?_
  refine AOps.want rfl rfl (by decide) rfl ?_
  refine AOps.step rfl rfl ?_
  refine AOp.of_run (ARun.eql rfl rfl rfl) ?_
  refine AOps.step rfl rfl (AOp.of_run (ARun.pickT rfl rfl) ?_)
  refine AOps.step rfl rfl ?_
  refine AOp.of_run (ARun.mvV (.inl rfl) rfl) ?_
  refine AOps.want rfl rfl (by decide) rfl ?_
  refine AOps.step rfl rfl ?_
  refine AOp.of_run (ARun.loadNL rfl rfl rfl) ?_
  refine AOps.want rfl rfl (by decide) rfl ?_
  refine AOps.step rfl rfl ?_
  refine AOp.of_run (ARun.loadNL rfl rfl rfl) ?_
  refine AOps.want rfl rfl (by decide) rfl ?_
  refine AOps.step rfl rfl (AOp.call_ rfl rfl ((SameR_spec B B _ z2).mono ?_))
  rintro _ _ ⟨rfl, rfl⟩
  rw [decide_eq_true (Eq.refl B)]
  refine AOps.step rfl rfl (AOp.of_run (ARun.pickT rfl rfl) ?_)
  refine AOps.step rfl rfl ?_
  refine AOp.of_run (ARun.mvV (.inl rfl) rfl) ?_
  refine AOps.want rfl rfl (by decide) rfl ?_
  refine AOps.step rfl rfl ?_
  refine AOp.of_run (ARun.loadNL rfl rfl rfl) ?_
  refine AOps.want rfl rfl (by decide) rfl ?_
  refine AOps.step rfl rfl (AOp.call_ rfl rfl ((CheckR_spec B _ z2).mono ?_))
  rintro _ _ ⟨rfl, rfl⟩
  rw [chkE_yes hchk2]
  refine AOps.want rfl rfl (by decide) rfl ?_
  refine AOps.step rfl rfl ?_
  refine AOp.of_run (ARun.eql rfl rfl rfl) ?_
  refine AOps.step rfl rfl (AOp.of_run (ARun.pickT rfl rfl) ?_)
  refine AOps.step rfl rfl ?_
  refine AOp.of_run (ARun.mvV (.inl rfl) rfl) ?_
  refine AOps.want rfl rfl (by decide) rfl ?_
  refine AOps.step rfl rfl (AOp.call_ rfl rfl ((heads20_spec _).mono ?_))
  rintro _ _ ⟨rfl, rfl⟩
  refine AOps.step rfl rfl (AOp.of_run (ARun.pickT rfl rfl) ?_)
  refine AOps.step rfl rfl ?_
  refine AOp.of_run (ARun.mvV (.inr rfl) rfl) ?_
  refine AOps.nil ?_
  refine AC.ret (ARes.one rfl (RV.V rfl) ⟨rfl, rfl⟩)
end Go.Proofs.Ytilanageangegaa

/- Walks of the documents' answers for layers 2 and 20: Check, Area, Proves. -/
set_option linter.unusedVariables false
set_option linter.unusedSimpArgs false
namespace Go.Proofs.Ytilanageangegaa
open Go.Ab

theorem sizeOK_iff (a : DArea) : sizeOK a = (decide (1 ≤ a.size) && decide (a.size ≤ 4096)) := by
  unfold sizeOK
  rw [dec_lt a.size 1, dec_lt 4096 a.size]
  cases decide (1 ≤ a.size) <;> cases decide (a.size ≤ 4096) <;> rfl

set_option maxRecDepth 10000 in
theorem Check02_spec (l : DLay) (h : AHeap) (hm : l.maps.length ≤ 1000000) : Sp Try.prog 75 [.agg (eLay l)] h (fun r h' => r = eI (errL (layB l)) ∧ h' = h) := by
  have hno : layB l = false → AVal.v (.int .i64 22) = eI (errL (layB l)) := fun e => by rw [e]; rfl
  refine Sp.of Try.func75 rfl rfl (by show 1 ≤ 43; decide) ?_
  (repeat (first | refine AC.seq ?_ | refine AC.block ?_ | refine AC.skip ?_))
  refine AC.region ?_
  refine AOps.step rfl rfl ?_
  refine AOp.boxL rfl rfl ?_
  refine AOps.step rfl rfl ?_
  refine AOp.of_run (ARun.mvV (.inr rfl) rfl) ?_
  refine AOps.nil ?_
  (repeat (first | refine AC.seq ?_ | refine AC.block ?_ | refine AC.skip ?_ | refine AC.exit ?_))
  refine AC.mono (Q := fun ex τ h2 => ex = .normal ∧ h2 = h ∧ Slots τ [(1, .lp (eLay l) 0), (2, eI 0), (19, eB ((decide (l.ctx.size < 0) || decide (4096 < l.ctx.size)) || decide ((8 : Int) < l.maps.length)))]) ?_ ?_
  · (repeat (first | refine AC.seq ?_ | refine AC.block ?_ | refine AC.skip ?_))
    refine AC.region ?_
    refine AOps.step rfl rfl ?_
    refine AOp.of_run (ARun.fieldAddrL rfl rfl) ?_
    refine AOps.step rfl rfl ?_
    refine AOp.of_run (ARun.fieldAddrL rfl rfl) ?_
    refine AOps.step rfl rfl ?_
    refine AOp.of_run (ARun.loadL rfl rfl rfl) ?_
    refine AOps.step rfl rfl ?_
    refine AOp.of_run (ARun.lss rfl rfl rfl) ?_
    refine AOps.step rfl rfl ?_
    refine AOp.of_run (ARun.mvV (.inl rfl) rfl) ?_
    cases g1 : decide (l.ctx.size < 0)
    case true =>
      refine AOps.passU rfl rfl (by decide) rfl rfl rfl ?_
      refine AOps.passU rfl rfl (by decide) rfl rfl rfl ?_
      refine AOps.passU rfl rfl (by decide) rfl rfl rfl ?_
      refine AOps.passU rfl rfl (by decide) rfl rfl rfl ?_
      refine AOps.step rfl rfl (AOp.of_run (ARun.pickT rfl rfl) ?_)
      refine AOps.step rfl rfl ?_
      refine AOp.of_run (ARun.mvV (.inl rfl) rfl) ?_
      refine AOps.passU rfl rfl (by decide) rfl rfl rfl ?_
      refine AOps.passU rfl rfl (by decide) rfl rfl rfl ?_
      refine AOps.passU rfl rfl (by decide) rfl rfl rfl ?_
      refine AOps.passU rfl rfl (by decide) rfl rfl rfl ?_
      refine AOps.step rfl rfl (AOp.of_run (ARun.pickT rfl rfl) ?_)
      refine AOps.nil ?_
      exact ⟨rfl, rfl, rfl, rfl, rfl, trivial⟩
    refine AOps.want rfl rfl (by decide) rfl ?_
    refine AOps.step rfl rfl ?_
    refine AOp.of_run (ARun.fieldAddrL rfl rfl) ?_
    refine AOps.want rfl rfl (by decide) rfl ?_
    refine AOps.step rfl rfl ?_
    refine AOp.of_run (ARun.fieldAddrL rfl rfl) ?_
    refine AOps.want rfl rfl (by decide) rfl ?_
    refine AOps.step rfl rfl ?_
    refine AOp.of_run (ARun.loadL rfl rfl rfl) ?_
    refine AOps.want rfl rfl (by decide) rfl ?_
    refine AOps.step rfl rfl ?_
    refine AOp.of_run (ARun.gtr rfl rfl rfl) ?_
    cases g2 : decide (4096 < l.ctx.size)
    case true =>
      refine AOps.step rfl rfl (AOp.of_run (ARun.pickF rfl rfl) ?_)
      refine AOps.step rfl rfl ?_
      refine AOp.of_run (ARun.mvV (.inl rfl) rfl) ?_
      refine AOps.passU rfl rfl (by decide) rfl rfl rfl ?_
      refine AOps.passU rfl rfl (by decide) rfl rfl rfl ?_
      refine AOps.passU rfl rfl (by decide) rfl rfl rfl ?_
      refine AOps.passU rfl rfl (by decide) rfl rfl rfl ?_
      refine AOps.step rfl rfl (AOp.of_run (ARun.pickT rfl rfl) ?_)
      refine AOps.nil ?_
      exact ⟨rfl, rfl, rfl, rfl, rfl, trivial⟩
    refine AOps.step rfl rfl (AOp.of_run (ARun.pickF rfl rfl) ?_)
    refine AOps.step rfl rfl ?_
    refine AOp.of_run (ARun.mvV (.inl rfl) rfl) ?_
    refine AOps.want rfl rfl (by decide) rfl ?_
    refine AOps.step rfl rfl ?_
    refine AOp.of_run (ARun.fieldAddrL rfl rfl) ?_
    refine AOps.want rfl rfl (by decide) rfl ?_
    refine AOps.step rfl rfl ?_
    refine AOp.of_run (ARun.loadL rfl rfl rfl) ?_
    refine AOps.want rfl rfl (by decide) rfl ?_
    refine AOps.step rfl rfl ?_
    refine AOp.of_run (ARun.lenL rfl rfl) ?_
    refine AOps.want rfl rfl (by decide) rfl ?_
    refine AOps.step rfl rfl ?_
    refine AOp.of_run (ARun.gtr rfl rfl rfl) ?_
    refine AOps.step rfl rfl (AOp.of_run (ARun.pickF rfl rfl) ?_)
    refine AOps.nil ?_
    exact ⟨rfl, rfl, rfl, rfl, rfl, trivial⟩
  rintro _ τ _ ⟨rfl, rfl, hs⟩
  obtain ⟨t0, rfl⟩ := hs.open_
  (repeat (first | refine AC.seq ?_ | refine AC.block ?_ | refine AC.skip ?_)); refine AC.cond rfl (fun hc => ?_) (fun hc => ?_)
  · (repeat (first | refine AC.seq ?_ | refine AC.block ?_ | refine AC.skip ?_))
    refine AC.region ?_
    refine AOps.step rfl rfl ?_
    refine AOp.of_run (ARun.mvV (.inr rfl) rfl) ?_
    refine AOps.nil ?_
    refine AC.ret (ARes.one rfl (RV.V rfl) ⟨hno ?_, rfl⟩)
    unfold layB; rw [hc]; rfl
  rename_i h
  (repeat (first | refine AC.seq ?_ | refine AC.block ?_ | refine AC.skip ?_ | refine AC.exit ?_))
  (repeat (first | refine AC.seq ?_ | refine AC.block ?_ | refine AC.skip ?_))
  refine AC.region ?_
  refine AOps.step rfl rfl ?_
  refine AOp.of_run (ARun.mvV (.inr rfl) rfl) ?_
  refine AOps.nil ?_
  (repeat (first | refine AC.seq ?_ | refine AC.block ?_ | refine AC.skip ?_ | refine AC.exit ?_))
  refine AC.loop (fun m τ h' => ∃ i : Nat, i ≤ l.maps.length ∧ m = l.maps.length - i ∧ Slots τ [(1, .lp (eLay l) 0), (3, eI i)] ∧ (∀ j (hj : j < l.maps.length), j < i → sizeOK l.maps[j] = true) ∧ h' = h) l.maps.length ?_ ?_
  · exact ⟨0, Nat.zero_le _, rfl, ⟨rfl, rfl, trivial⟩, fun j _ hj => by omega, rfl⟩
  rintro m τ h ⟨i, hi, rfl, hs, hall, rfl⟩
  obtain ⟨t1, rfl⟩ := hs.open_
  (repeat (first | refine AC.seq ?_ | refine AC.block ?_ | refine AC.skip ?_))
  refine AC.region ?_
  refine AOps.step rfl rfl ?_
  refine AOp.of_run (ARun.mvV (.inl rfl) rfl) ?_
  refine AOps.step rfl rfl ?_
  refine AOp.of_run (ARun.fieldAddrL rfl rfl) ?_
  refine AOps.step rfl rfl ?_
  refine AOp.of_run (ARun.loadL rfl rfl rfl) ?_
  refine AOps.step rfl rfl ?_
  refine AOp.of_run (ARun.lenL rfl rfl) ?_
  refine AOps.step rfl rfl ?_
  refine AOp.of_run (ARun.lss rfl rfl rfl) ?_
  refine AOps.nil ?_
  (repeat (first | refine AC.seq ?_ | refine AC.block ?_ | refine AC.skip ?_)); refine AC.cond rfl (fun hc => ?_) (fun hc => ?_)
  · have hlt : i < l.maps.length := by simpa using hc
    have g1 : (l.maps.flatMap eAr)[(i : Int).toNat * 2 + 0]? = some (eI l.maps[i].size) := by rw [Int.toNat_natCast]; exact (get_flatMap eArea_len hlt (by decide)).trans rfl
    have hbad : sizeOK l.maps[i] = false → layB l = false := fun e => by
      unfold layB
      rw [show l.maps.all sizeOK = false from by
        cases q : l.maps.all sizeOK
        · rfl
        · rw [List.all_eq_true] at q
          rw [q _ (List.getElem_mem hlt)] at e; cases e]
      simp
    have hgood : sizeOK l.maps[i] = true → ∀ j (hj : j < l.maps.length), j < i + 1 → sizeOK l.maps[j] = true := fun e j hj hji => by
      rcases Nat.lt_or_ge j i with c | c
      · exact hall j hj c
      · obtain rfl : j = i := by omega
        exact e
    generalize l.maps[i] = a at *
    rename_i h
    (repeat (first | refine AC.seq ?_ | refine AC.block ?_ | refine AC.skip ?_ | refine AC.exit ?_))
    refine AC.mono (Q := fun ex τ h2 => ex = .normal ∧ h2 = h ∧ Slots τ [(1, .lp (eLay l) 0), (3, eI i), (42, eB (!sizeOK a))]) ?_ ?_
    · (repeat (first | refine AC.seq ?_ | refine AC.block ?_ | refine AC.skip ?_))
      refine AC.region ?_
      refine AOps.step rfl rfl ?_
      refine AOp.of_run (ARun.fieldAddrL rfl rfl) ?_
      refine AOps.step rfl rfl ?_
      refine AOp.of_run (ARun.loadL rfl rfl rfl) ?_
      refine AOps.step rfl rfl ?_
      refine AOp.of_run (ARun.mvV (.inl rfl) rfl) ?_
      refine AOps.step rfl rfl ?_
      refine AOp.of_run (ARun.indexAddrL rfl rfl rfl (by omega) (by omega)) ?_
      refine AOps.step rfl rfl ?_
      refine AOp.of_run (ARun.fieldAddrL rfl rfl) ?_
      refine AOps.step rfl rfl (AOp.of_run (ARun.loadL rfl rfl g1) ?_)
      refine AOps.step rfl rfl ?_
      refine AOp.of_run (ARun.lss rfl rfl rfl) ?_
      rw [sizeOK_iff, dec_lt a.size 1]
      cases g2 : decide (1 ≤ a.size)
      · refine AOps.step rfl rfl ?_
        refine AOp.of_run (ARun.mvV (.inl rfl) rfl) ?_
        refine AOps.passU rfl rfl (by decide) rfl rfl rfl ?_
        refine AOps.passU rfl rfl (by decide) rfl rfl rfl ?_
        refine AOps.passU rfl rfl (by decide) rfl rfl rfl ?_
        refine AOps.passU rfl rfl (by decide) rfl rfl rfl ?_
        refine AOps.passU rfl rfl (by decide) rfl rfl rfl ?_
        refine AOps.passU rfl rfl (by decide) rfl rfl rfl ?_
        refine AOps.passU rfl rfl (by decide) rfl rfl rfl ?_
        refine AOps.step rfl rfl (AOp.of_run (ARun.pickT rfl rfl) ?_)
        refine AOps.nil ?_
        exact ⟨rfl, rfl, rfl, rfl, rfl, trivial⟩
      · refine AOps.step rfl rfl ?_
        refine AOp.of_run (ARun.mvV (.inl rfl) rfl) ?_
        refine AOps.want rfl rfl (by decide) rfl ?_
        refine AOps.step rfl rfl ?_
        refine AOp.of_run (ARun.fieldAddrL rfl rfl) ?_
        refine AOps.want rfl rfl (by decide) rfl ?_
        refine AOps.step rfl rfl ?_
        refine AOp.of_run (ARun.loadL rfl rfl rfl) ?_
        refine AOps.want rfl rfl (by decide) rfl ?_
        refine AOps.step rfl rfl ?_
        refine AOp.of_run (ARun.mvV (.inl rfl) rfl) ?_
        refine AOps.want rfl rfl (by decide) rfl ?_
        refine AOps.step rfl rfl ?_
        refine AOp.of_run (ARun.indexAddrL rfl rfl rfl (by omega) (by omega)) ?_
        refine AOps.want rfl rfl (by decide) rfl ?_
        refine AOps.step rfl rfl ?_
        refine AOp.of_run (ARun.fieldAddrL rfl rfl) ?_
        refine AOps.want rfl rfl (by decide) rfl ?_
        refine AOps.step rfl rfl (AOp.of_run (ARun.loadL rfl rfl g1) ?_)
        refine AOps.want rfl rfl (by decide) rfl ?_
        refine AOps.step rfl rfl ?_
        refine AOp.of_run (ARun.gtr rfl rfl rfl) ?_
        rw [dec_lt 4096 a.size]
        refine AOps.step rfl rfl (AOp.of_run (ARun.pickF rfl rfl) ?_)
        refine AOps.nil ?_
        exact ⟨rfl, rfl, rfl, rfl, rfl, trivial⟩
    rintro _ τ _ ⟨rfl, rfl, hs⟩
    obtain ⟨t2, rfl⟩ := hs.open_
    (repeat (first | refine AC.seq ?_ | refine AC.block ?_ | refine AC.skip ?_)); refine AC.cond rfl (fun hc => ?_) (fun hc => ?_)
    · (repeat (first | refine AC.seq ?_ | refine AC.block ?_ | refine AC.skip ?_))
      refine AC.region ?_
      refine AOps.step rfl rfl ?_
      refine AOp.of_run (ARun.mvV (.inr rfl) rfl) ?_
      refine AOps.nil ?_
      refine AC.ret (ARes.one rfl (RV.V rfl) ⟨hno (hbad ?_), rfl⟩)
      simpa using hc
    · have hok : sizeOK a = true := by simpa using hc
      (repeat (first | refine AC.seq ?_ | refine AC.block ?_ | refine AC.skip ?_ | refine AC.exit ?_))
      (repeat (first | refine AC.seq ?_ | refine AC.block ?_ | refine AC.skip ?_))
      refine AC.region ?_
      refine AOps.step rfl rfl ?_
      refine AOp.of_run (ARun.mvV (.inl rfl) rfl) ?_
      refine AOps.step rfl rfl ?_
      refine AOp.of_run (ARun.add rfl rfl rfl) ?_
      refine AOps.step rfl rfl ?_
      refine AOp.of_run (ARun.mvV (.inr rfl) rfl) ?_
      refine AOps.nil ?_
      exact ⟨_, by omega, i + 1, hlt, rfl, ⟨rfl, eI_wrap (by omega) (by omega) (by omega), trivial⟩, hgood hok, rfl⟩
  have hge : i = l.maps.length := by simp at hc; omega
  (repeat (first | refine AC.seq ?_ | refine AC.block ?_ | refine AC.skip ?_ | refine AC.exit ?_))
  (repeat (first | refine AC.seq ?_ | refine AC.block ?_ | refine AC.skip ?_))
  refine AC.region ?_
  refine AOps.step rfl rfl ?_
  refine AOp.of_run (ARun.mvV (.inr rfl) rfl) ?_
  refine AOps.nil ?_
  refine AC.ret (ARes.one rfl (RV.V rfl) ⟨?_, rfl⟩)
  have hc0 : ((decide (l.ctx.size < 0) || decide (4096 < l.ctx.size)) || decide ((8 : Int) < l.maps.length)) = false := by assumption
  have : layB l = true := by
    unfold layB
    rw [hc0, List.all_eq_true.2 fun a ha => by
      obtain ⟨j, hj, rfl⟩ := List.getElem_of_mem ha
      exact hall j hj (by omega)]; rfl
  rw [this]; rfl

theorem areaOf_no {l : DLay} {r : Int} (h : layB l = false) : areaOf l r = none := by
  unfold areaOf areasL
  rw [if_neg (by rw [h]; simp; omega)]
theorem areaOf_ctx {l : DLay} (h : layB l = true) : areaOf l 1 = some l.ctx := by
  unfold areaOf areasL
  rw [if_pos h, if_pos (by simp; omega)]; rfl
theorem areaOf_stk {l : DLay} (h : layB l = true) : areaOf l 2 = some ⟨512, true⟩ := by
  unfold areaOf areasL
  rw [if_pos h, if_pos (by simp; omega)]; rfl
theorem areaOf_map {l : DLay} (h : layB l = true) {r : Int} (h0 : 3 ≤ r) (h1 : (r - 3).toNat < l.maps.length) : areaOf l r = some l.maps[(r - 3).toNat] := by
  unfold areaOf areasL
  rw [if_pos h, if_pos (by simp; omega), List.getElem?_append_right (by simp; omega)]
  rw [List.getElem?_eq_getElem (by simp; omega)]
  congr 1
  simp only [List.length_cons, List.length_nil]
  congr 1
  omega
theorem areaOf_out {l : DLay} (h : layB l = true) {r : Int} (h1 : r ≠ 1) (h2 : r ≠ 2) (h3 : ¬ (3 ≤ r ∧ r < 3 + l.maps.length)) : areaOf l r = none := by
  unfold areaOf areasL
  rw [if_pos h, if_neg (by simp; omega)]

set_option maxRecDepth 10000 in
theorem Area02_spec (l : DLay) (r : Int) (h : AHeap) (hm : l.maps.length ≤ 1000000) : Sp Try.prog 47 [.agg (eLay l), eI r] h (fun x h' => x = .tup [.agg (eAr ((areaOf l r).getD ⟨0, false⟩)), eB (areaOf l r).isSome] ∧ h' = h) := by
  refine Sp.of Try.func47 rfl rfl (by show 2 ≤ 37; decide) ?_
  (repeat (first | refine AC.seq ?_ | refine AC.block ?_ | refine AC.skip ?_))
  refine AC.region ?_
  refine AOps.step rfl rfl ?_
  refine AOp.boxL rfl rfl ?_
  refine AOps.step rfl rfl (AOp.alloc rfl (fun b hb => ?_))
  refine AOps.step rfl rfl ?_
  refine AOp.of_run (ARun.mvV (.inr rfl) rfl) ?_
  refine AOps.nil ?_
  (repeat (first | refine AC.seq ?_ | refine AC.block ?_ | refine AC.skip ?_))
  refine AC.region ?_
  refine AOps.step rfl rfl (AOp.of_run (ARun.loadNL rfl rfl rfl) ?_)
  refine AOps.step rfl rfl (AOp.call_ rfl rfl ((Check02_spec l _ hm).mono ?_))
  rintro _ _ ⟨rfl, rfl⟩
  refine AOps.step rfl rfl ?_
  refine AOp.of_run (ARun.neq rfl rfl rfl) ?_
  refine AOps.nil ?_
  cases hl : layB l
  · (repeat (first | refine AC.seq ?_ | refine AC.block ?_ | refine AC.skip ?_)); refine AC.cond rfl (fun hc => ?_) (fun hc => ?_)
    case refine_2 => cases hc
    (repeat (first | refine AC.seq ?_ | refine AC.block ?_ | refine AC.skip ?_))
    refine AC.region ?_
    refine AOps.step rfl rfl ?_
    refine AOp.of_run (ARun.build rfl) ?_
    refine AOps.step rfl rfl (AOp.store rfl rfl (hset_same _ _ _) rfl ?_)
    refine AOps.step rfl rfl ?_
    refine AOp.of_run (ARun.mvV (.inr rfl) rfl) ?_
    refine AOps.nil ?_
    refine AC.ret (ARes.le (Le.freezeNew (d := 4) hb rfl) (ARes.two rfl (RV.cellNL rfl rfl) RV.tmp ⟨?_, rfl⟩))
    rw [areaOf_no hl]; rfl
  (repeat (first | refine AC.seq ?_ | refine AC.block ?_ | refine AC.skip ?_)); refine AC.cond rfl (fun hc => ?_) (fun hc => ?_)
  · cases hc
  (repeat (first | refine AC.seq ?_ | refine AC.block ?_ | refine AC.skip ?_ | refine AC.exit ?_))
  (repeat (first | refine AC.seq ?_ | refine AC.block ?_ | refine AC.skip ?_))
  refine AC.region ?_
  refine AOps.step rfl rfl ?_
  refine AOp.of_run (ARun.mvV (.inl rfl) rfl) ?_
  refine AOps.step rfl rfl ?_
  refine AOp.of_run (ARun.eql rfl rfl rfl) ?_
  refine AOps.step rfl rfl ?_
  refine AOp.of_run (ARun.mvV (.inr rfl) rfl) ?_
  refine AOps.nil ?_
  (repeat (first | refine AC.seq ?_ | refine AC.block ?_ | refine AC.skip ?_)); refine AC.cond rfl (fun hc => ?_) (fun hc => ?_)
  · have e : r = 1 := by simpa using hc
    subst e
    (repeat (first | refine AC.seq ?_ | refine AC.block ?_ | refine AC.skip ?_))
    refine AC.region ?_
    refine AOps.step rfl rfl ?_
    refine AOp.of_run (ARun.fieldAddrL rfl rfl) ?_
    refine AOps.step rfl rfl (AOp.of_run (ARun.loadNL rfl rfl rfl) ?_)
    refine AOps.step rfl rfl (AOp.store rfl rfl (hset_same _ _ _) rfl ?_)
    refine AOps.step rfl rfl ?_
    refine AOp.of_run (ARun.mvV (.inr rfl) rfl) ?_
    refine AOps.nil ?_
    refine AC.ret (ARes.le (Le.freezeNew (d := 4) hb rfl) (ARes.two rfl (RV.cellNL rfl rfl) RV.tmp ⟨?_, rfl⟩))
    rw [areaOf_ctx hl]; rfl
  have n1 : r ≠ 1 := by simpa using hc
  (repeat (first | refine AC.seq ?_ | refine AC.block ?_ | refine AC.skip ?_ | refine AC.exit ?_))
  (repeat (first | refine AC.seq ?_ | refine AC.block ?_ | refine AC.skip ?_))
  refine AC.region ?_
  refine AOps.step rfl rfl ?_
  refine AOp.of_run (ARun.mvV (.inl rfl) rfl) ?_
  refine AOps.step rfl rfl ?_
  refine AOp.of_run (ARun.eql rfl rfl rfl) ?_
  refine AOps.step rfl rfl ?_
  refine AOp.of_run (ARun.mvV (.inr rfl) rfl) ?_
  refine AOps.nil ?_
  (repeat (first | refine AC.seq ?_ | refine AC.block ?_ | refine AC.skip ?_)); refine AC.cond rfl (fun hc => ?_) (fun hc => ?_)
  · have e : r = 2 := by simpa using hc
    subst e
    (repeat (first | refine AC.seq ?_ | refine AC.block ?_ | refine AC.skip ?_))
    refine AC.region ?_
    refine AOps.step rfl rfl ?_
    refine AOp.of_run (ARun.build rfl) ?_
    refine AOps.step rfl rfl (AOp.store rfl rfl (hset_same _ _ _) rfl ?_)
    refine AOps.step rfl rfl ?_
    refine AOp.of_run (ARun.mvV (.inr rfl) rfl) ?_
    refine AOps.nil ?_
    refine AC.ret (ARes.le (Le.freezeNew (d := 4) hb rfl) (ARes.two rfl (RV.cellNL rfl rfl) RV.tmp ⟨?_, rfl⟩))
    rw [areaOf_stk hl]; rfl
  have n2 : r ≠ 2 := by simpa using hc
  have hw : IntKind.i64.wrap (3 + (l.maps.length : Int)) = 3 + l.maps.length := wrap_i64 (by omega) (by omega)
  (repeat (first | refine AC.seq ?_ | refine AC.block ?_ | refine AC.skip ?_ | refine AC.exit ?_))
  cases g1 : decide (3 ≤ r)
  · (repeat (first | refine AC.seq ?_ | refine AC.block ?_ | refine AC.skip ?_))
    refine AC.region ?_
    refine AOps.step rfl rfl ?_
    refine AOp.of_run (ARun.mvV (.inl rfl) rfl) ?_
    refine AOps.step rfl rfl (AOp.of_run (ARun.geqW rfl rfl rfl g1) ?_)
    refine AOps.step rfl rfl ?_
    refine AOp.of_run (ARun.mvV (.inl rfl) rfl) ?_
    refine AOps.passU rfl rfl (by decide) rfl rfl rfl ?_
    refine AOps.passU rfl rfl (by decide) rfl rfl rfl ?_
    refine AOps.passU rfl rfl (by decide) rfl rfl rfl ?_
    refine AOps.passU rfl rfl (by decide) rfl rfl rfl ?_
    refine AOps.passU rfl rfl (by decide) rfl rfl rfl ?_
    refine AOps.passU rfl rfl (by decide) rfl rfl rfl ?_
    refine AOps.step rfl rfl (AOp.of_run (ARun.pickF rfl rfl) ?_)
    refine AOps.step rfl rfl ?_
    refine AOp.of_run (ARun.mvV (.inr rfl) rfl) ?_
    refine AOps.nil ?_
    (repeat (first | refine AC.seq ?_ | refine AC.block ?_ | refine AC.skip ?_)); refine AC.cond rfl (fun hc => ?_) (fun hc => ?_)
    · cases hc
    (repeat (first | refine AC.seq ?_ | refine AC.block ?_ | refine AC.skip ?_ | refine AC.exit ?_))
    (repeat (first | refine AC.seq ?_ | refine AC.block ?_ | refine AC.skip ?_))
    refine AC.region ?_
    refine AOps.step rfl rfl ?_
    refine AOp.of_run (ARun.build rfl) ?_
    refine AOps.step rfl rfl (AOp.store rfl rfl (hset_same _ _ _) rfl ?_)
    refine AOps.step rfl rfl ?_
    refine AOp.of_run (ARun.mvV (.inr rfl) rfl) ?_
    refine AOps.nil ?_
    refine AC.ret (ARes.le (Le.freezeNew (d := 4) hb rfl) (ARes.two rfl (RV.cellNL rfl rfl) RV.tmp ⟨?_, rfl⟩))
    rw [areaOf_out hl n1 n2 fun e => by have := of_decide_eq_false g1; omega]; rfl
  have h3 : 3 ≤ r := by simpa using g1
  (repeat (first | refine AC.seq ?_ | refine AC.block ?_ | refine AC.skip ?_))
  refine AC.region ?_
  refine AOps.step rfl rfl ?_
  refine AOp.of_run (ARun.mvV (.inl rfl) rfl) ?_
  refine AOps.step rfl rfl (AOp.of_run (ARun.geqW rfl rfl rfl g1) ?_)
  refine AOps.step rfl rfl ?_
  refine AOp.of_run (ARun.mvV (.inl rfl) rfl) ?_
  refine AOps.want rfl rfl (by decide) rfl ?_
  refine AOps.step rfl rfl ?_
  refine AOp.of_run (ARun.mvV (.inl rfl) rfl) ?_
  refine AOps.want rfl rfl (by decide) rfl ?_
  refine AOps.step rfl rfl ?_
  refine AOp.of_run (ARun.fieldAddrL rfl rfl) ?_
  refine AOps.want rfl rfl (by decide) rfl ?_
  refine AOps.step rfl rfl ?_
  refine AOp.of_run (ARun.loadL rfl rfl rfl) ?_
  refine AOps.want rfl rfl (by decide) rfl ?_
  refine AOps.step rfl rfl ?_
  refine AOp.of_run (ARun.lenL rfl rfl) ?_
  refine AOps.want rfl rfl (by decide) rfl ?_
  refine AOps.step rfl rfl ?_
  refine AOp.of_run (ARun.add rfl rfl rfl) ?_
  rw [hw]
  refine AOps.want rfl rfl (by decide) rfl ?_
  refine AOps.step rfl rfl ?_
  refine AOp.of_run (ARun.lss rfl rfl rfl) ?_
  refine AOps.step rfl rfl (AOp.of_run (ARun.pickT rfl rfl) ?_)
  refine AOps.step rfl rfl ?_
  refine AOp.of_run (ARun.mvV (.inr rfl) rfl) ?_
  refine AOps.nil ?_
  (repeat (first | refine AC.seq ?_ | refine AC.block ?_ | refine AC.skip ?_)); refine AC.cond rfl (fun hc => ?_) (fun hc => ?_)
  · have h4 : r < 3 + l.maps.length := by simpa using hc
    have hw2 : IntKind.i64.wrap (r - 3) = r - 3 := wrap_i64 (by omega) (by omega)
    have hlt : (r - 3).toNat < l.maps.length := by omega
    have g2 : rdc (l.maps.flatMap eAr) ((IntKind.i64.wrap (r - 3)).toNat * 2) 2 = some (eAr l.maps[(r - 3).toNat]) := by rw [hw2]; exact rdc_flatMap eArea_len hlt
    (repeat (first | refine AC.seq ?_ | refine AC.block ?_ | refine AC.skip ?_))
    refine AC.region ?_
    refine AOps.step rfl rfl ?_
    refine AOp.of_run (ARun.fieldAddrL rfl rfl) ?_
    refine AOps.step rfl rfl ?_
    refine AOp.of_run (ARun.loadL rfl rfl rfl) ?_
    refine AOps.step rfl rfl ?_
    refine AOp.of_run (ARun.mvV (.inl rfl) rfl) ?_
    refine AOps.step rfl rfl ?_
    refine AOp.of_run (ARun.sub rfl rfl rfl) ?_
    refine AOps.step rfl rfl (AOp.of_run (ARun.indexAddrL rfl rfl rfl (by omega) (by omega)) ?_)
    refine AOps.step rfl rfl (AOp.of_run (ARun.loadNL rfl rfl g2) ?_)
    refine AOps.step rfl rfl (AOp.store rfl rfl (hset_same _ _ _) rfl ?_)
    refine AOps.step rfl rfl ?_
    refine AOp.of_run (ARun.mvV (.inr rfl) rfl) ?_
    refine AOps.nil ?_
    refine AC.ret (ARes.le (Le.freezeNew (d := 4) hb rfl) (ARes.two rfl (RV.cellNL rfl rfl) RV.tmp ⟨?_, rfl⟩))
    rw [areaOf_map hl h3 hlt]; rfl
  · have h4 : ¬ r < 3 + l.maps.length := by simpa using hc
    (repeat (first | refine AC.seq ?_ | refine AC.block ?_ | refine AC.skip ?_ | refine AC.exit ?_))
    (repeat (first | refine AC.seq ?_ | refine AC.block ?_ | refine AC.skip ?_))
    refine AC.region ?_
    refine AOps.step rfl rfl ?_
    refine AOp.of_run (ARun.build rfl) ?_
    refine AOps.step rfl rfl (AOp.store rfl rfl (hset_same _ _ _) rfl ?_)
    refine AOps.step rfl rfl ?_
    refine AOp.of_run (ARun.mvV (.inr rfl) rfl) ?_
    refine AOps.nil ?_
    refine AC.ret (ARes.le (Le.freezeNew (d := 4) hb rfl) (ARes.two rfl (RV.cellNL rfl rfl) RV.tmp ⟨?_, rfl⟩))
    rw [areaOf_out hl n1 n2 fun e => h4 e.2]; rfl

set_option maxRecDepth 10000 in
theorem ProvesR_spec (l : DLay) (f : DFact) (size : Int) (write : Bool) (h : AHeap) (hm : l.maps.length ≤ 1000000) : Sp Try.prog 17 [.agg (eLay l), .agg (eFact f), eI size, eB write] h (fun r h' => r = eB (provB l f size write) ∧ h' = h) := by
  refine Sp.of Try.func17 rfl rfl (by show 4 ≤ 62; decide) ?_
  (repeat (first | refine AC.seq ?_ | refine AC.block ?_ | refine AC.skip ?_))
  refine AC.region ?_
  refine AOps.step rfl rfl ?_
  refine AOp.boxL rfl rfl ?_
  refine AOps.step rfl rfl ?_
  refine AOp.boxL rfl rfl ?_
  refine AOps.step rfl rfl ?_
  refine AOp.of_run (ARun.mvV (.inr rfl) rfl) ?_
  refine AOps.nil ?_
  (repeat (first | refine AC.seq ?_ | refine AC.block ?_ | refine AC.skip ?_))
  refine AC.region ?_
  refine AOps.step rfl rfl (AOp.of_run (ARun.loadNL rfl rfl rfl) ?_)
  refine AOps.step rfl rfl ?_
  refine AOp.of_run (ARun.fieldAddrL rfl rfl) ?_
  refine AOps.step rfl rfl ?_
  refine AOp.of_run (ARun.loadL rfl rfl rfl) ?_
  refine AOps.step rfl rfl (AOp.call_ rfl rfl ((Area02_spec l f.region h hm).mono ?_))
  rintro _ _ ⟨rfl, rfl⟩
  rename_i h
  unfold provB
  generalize (areaOf l f.region).isSome = ok
  generalize (areaOf l f.region).getD ⟨0, false⟩ = a
  refine AOps.step rfl rfl ?_
  refine AOp.of_run (ARun.mvT (.inl rfl) rfl) ?_
  refine AOps.step rfl rfl ?_
  refine AOp.of_run (ARun.extract rfl rfl rfl) ?_
  refine AOps.step rfl rfl ?_
  refine AOp.of_run (ARun.extract rfl rfl rfl) ?_
  refine AOps.step rfl rfl (AOp.alloc rfl (fun b hb => ?_))
  refine AOps.step rfl rfl (AOp.store rfl rfl (hset_same _ _ _) rfl ?_)
  refine AOps.step rfl rfl ?_
  refine AOp.of_run (ARun.mvV (.inr rfl) rfl) ?_
  refine AOps.nil ?_
  refine AC.le (Le.freezeNew (d := 9) hb rfl) ?_
  (repeat (first | refine AC.seq ?_ | refine AC.block ?_ | refine AC.skip ?_ | refine AC.exit ?_))
  refine AC.mono (Q := fun ex τ h2 => ex = .normal ∧ h2 = h ∧ Slots τ [(2, eI size), (5, .lp (eFact f) 0), (9, .lp (eAr a) 0), (42, eB (badB ok a f.seen size write))]) ?_ ?_
  · unfold badB
    (repeat (first | refine AC.seq ?_ | refine AC.block ?_ | refine AC.skip ?_))
    refine AC.region ?_
    refine AOps.step rfl rfl ?_
    refine AOp.of_run (ARun.fieldAddrL rfl rfl) ?_
    refine AOps.step rfl rfl ?_
    refine AOp.of_run (ARun.loadL rfl rfl rfl) ?_
    refine AOps.step rfl rfl ?_
    refine AOp.of_run (ARun.not rfl rfl) ?_
    refine AOps.step rfl rfl ?_
    refine AOp.of_run (ARun.mvV (.inl rfl) rfl) ?_
    cases hs : f.seen
    · refine AOps.passU rfl rfl (by decide) rfl rfl rfl ?_
      refine AOps.passU rfl rfl (by decide) rfl rfl rfl ?_
      refine AOps.step rfl rfl (AOp.of_run (ARun.pickT rfl rfl) ?_)
      refine AOps.step rfl rfl ?_
      refine AOp.of_run (ARun.mvV (.inl rfl) rfl) ?_
      refine AOps.passU rfl rfl (by decide) rfl rfl rfl ?_
      refine AOps.passU rfl rfl (by decide) rfl rfl rfl ?_
      refine AOps.step rfl rfl (AOp.of_run (ARun.pickT rfl rfl) ?_)
      refine AOps.step rfl rfl ?_
      refine AOp.of_run (ARun.mvV (.inl rfl) rfl) ?_
      refine AOps.passU rfl rfl (by decide) rfl rfl rfl ?_
      refine AOps.passU rfl rfl (by decide) rfl rfl rfl ?_
      refine AOps.passU rfl rfl (by decide) rfl rfl rfl ?_
      refine AOps.passU rfl rfl (by decide) rfl rfl rfl ?_
      refine AOps.step rfl rfl (AOp.of_run (ARun.pickT rfl rfl) ?_)
      refine AOps.step rfl rfl ?_
      refine AOp.of_run (ARun.mvV (.inl rfl) rfl) ?_
      refine AOps.passU rfl rfl (by decide) rfl rfl rfl ?_
      refine AOps.passU rfl rfl (by decide) rfl rfl rfl ?_
      refine AOps.passU rfl rfl (by decide) rfl rfl rfl ?_
      refine AOps.passU rfl rfl (by decide) rfl rfl rfl ?_
      refine AOps.passU rfl rfl (by decide) rfl rfl rfl ?_
      refine AOps.passU rfl rfl (by decide) rfl rfl rfl ?_
      refine AOps.step rfl rfl (AOp.of_run (ARun.pickT rfl rfl) ?_)
      refine AOps.nil ?_
      refine ⟨rfl, rfl, rfl, rfl, rfl, ?_, trivial⟩
      cases ok <;> rfl
    cases ok
    · refine AOps.want rfl rfl (by decide) rfl ?_
      refine AOps.step rfl rfl ?_
      refine AOp.of_run (ARun.mvV (.inl rfl) rfl) ?_
      refine AOps.want rfl rfl (by decide) rfl ?_
      refine AOps.step rfl rfl ?_
      refine AOp.of_run (ARun.not rfl rfl) ?_
      refine AOps.step rfl rfl (AOp.of_run (ARun.pickF rfl rfl) ?_)
      refine AOps.step rfl rfl ?_
      refine AOp.of_run (ARun.mvV (.inl rfl) rfl) ?_
      refine AOps.passU rfl rfl (by decide) rfl rfl rfl ?_
      refine AOps.passU rfl rfl (by decide) rfl rfl rfl ?_
      refine AOps.step rfl rfl (AOp.of_run (ARun.pickT rfl rfl) ?_)
      refine AOps.step rfl rfl ?_
      refine AOp.of_run (ARun.mvV (.inl rfl) rfl) ?_
      refine AOps.passU rfl rfl (by decide) rfl rfl rfl ?_
      refine AOps.passU rfl rfl (by decide) rfl rfl rfl ?_
      refine AOps.passU rfl rfl (by decide) rfl rfl rfl ?_
      refine AOps.passU rfl rfl (by decide) rfl rfl rfl ?_
      refine AOps.step rfl rfl (AOp.of_run (ARun.pickT rfl rfl) ?_)
      refine AOps.step rfl rfl ?_
      refine AOp.of_run (ARun.mvV (.inl rfl) rfl) ?_
      refine AOps.passU rfl rfl (by decide) rfl rfl rfl ?_
      refine AOps.passU rfl rfl (by decide) rfl rfl rfl ?_
      refine AOps.passU rfl rfl (by decide) rfl rfl rfl ?_
      refine AOps.passU rfl rfl (by decide) rfl rfl rfl ?_
      refine AOps.passU rfl rfl (by decide) rfl rfl rfl ?_
      refine AOps.passU rfl rfl (by decide) rfl rfl rfl ?_
      refine AOps.step rfl rfl (AOp.of_run (ARun.pickT rfl rfl) ?_)
      refine AOps.nil ?_
      exact ⟨rfl, rfl, rfl, rfl, rfl, rfl, trivial⟩
    refine AOps.want rfl rfl (by decide) rfl ?_
    refine AOps.step rfl rfl ?_
    refine AOp.of_run (ARun.mvV (.inl rfl) rfl) ?_
    refine AOps.want rfl rfl (by decide) rfl ?_
    refine AOps.step rfl rfl ?_
    refine AOp.of_run (ARun.not rfl rfl) ?_
    refine AOps.step rfl rfl (AOp.of_run (ARun.pickF rfl rfl) ?_)
    refine AOps.step rfl rfl ?_
    refine AOp.of_run (ARun.mvV (.inl rfl) rfl) ?_
    refine AOps.want rfl rfl (by decide) rfl ?_
    refine AOps.step rfl rfl ?_
    refine AOp.of_run (ARun.mvV (.inl rfl) rfl) ?_
    refine AOps.want rfl rfl (by decide) rfl ?_
    refine AOps.step rfl rfl ?_
    refine AOp.of_run (ARun.lss rfl rfl rfl) ?_
    cases g1 : decide (size < 1)
    case true =>
      refine AOps.step rfl rfl (AOp.of_run (ARun.pickF rfl rfl) ?_)
      refine AOps.step rfl rfl ?_
      refine AOp.of_run (ARun.mvV (.inl rfl) rfl) ?_
      refine AOps.passU rfl rfl (by decide) rfl rfl rfl ?_
      refine AOps.passU rfl rfl (by decide) rfl rfl rfl ?_
      refine AOps.passU rfl rfl (by decide) rfl rfl rfl ?_
      refine AOps.passU rfl rfl (by decide) rfl rfl rfl ?_
      refine AOps.step rfl rfl (AOp.of_run (ARun.pickT rfl rfl) ?_)
      refine AOps.step rfl rfl ?_
      refine AOp.of_run (ARun.mvV (.inl rfl) rfl) ?_
      refine AOps.passU rfl rfl (by decide) rfl rfl rfl ?_
      refine AOps.passU rfl rfl (by decide) rfl rfl rfl ?_
      refine AOps.passU rfl rfl (by decide) rfl rfl rfl ?_
      refine AOps.passU rfl rfl (by decide) rfl rfl rfl ?_
      refine AOps.passU rfl rfl (by decide) rfl rfl rfl ?_
      refine AOps.passU rfl rfl (by decide) rfl rfl rfl ?_
      refine AOps.step rfl rfl (AOp.of_run (ARun.pickT rfl rfl) ?_)
      refine AOps.nil ?_
      exact ⟨rfl, rfl, rfl, rfl, rfl, rfl, trivial⟩
    refine AOps.step rfl rfl (AOp.of_run (ARun.pickF rfl rfl) ?_)
    refine AOps.step rfl rfl ?_
    refine AOp.of_run (ARun.mvV (.inl rfl) rfl) ?_
    refine AOps.want rfl rfl (by decide) rfl ?_
    refine AOps.step rfl rfl ?_
    refine AOp.of_run (ARun.mvV (.inl rfl) rfl) ?_
    refine AOps.want rfl rfl (by decide) rfl ?_
    refine AOps.step rfl rfl ?_
    refine AOp.of_run (ARun.fieldAddrL rfl rfl) ?_
    refine AOps.want rfl rfl (by decide) rfl ?_
    refine AOps.step rfl rfl ?_
    refine AOp.of_run (ARun.loadL rfl rfl rfl) ?_
    refine AOps.want rfl rfl (by decide) rfl ?_
    refine AOps.step rfl rfl ?_
    refine AOp.of_run (ARun.gtr rfl rfl rfl) ?_
    cases g2 : decide (a.size < size)
    case true =>
      refine AOps.step rfl rfl (AOp.of_run (ARun.pickF rfl rfl) ?_)
      refine AOps.step rfl rfl ?_
      refine AOp.of_run (ARun.mvV (.inl rfl) rfl) ?_
      refine AOps.passU rfl rfl (by decide) rfl rfl rfl ?_
      refine AOps.passU rfl rfl (by decide) rfl rfl rfl ?_
      refine AOps.passU rfl rfl (by decide) rfl rfl rfl ?_
      refine AOps.passU rfl rfl (by decide) rfl rfl rfl ?_
      refine AOps.passU rfl rfl (by decide) rfl rfl rfl ?_
      refine AOps.passU rfl rfl (by decide) rfl rfl rfl ?_
      refine AOps.step rfl rfl (AOp.of_run (ARun.pickT rfl rfl) ?_)
      refine AOps.nil ?_
      exact ⟨rfl, rfl, rfl, rfl, rfl, rfl, trivial⟩
    refine AOps.step rfl rfl (AOp.of_run (ARun.pickF rfl rfl) ?_)
    refine AOps.step rfl rfl ?_
    refine AOp.of_run (ARun.mvV (.inl rfl) rfl) ?_
    refine AOps.want rfl rfl (by decide) rfl ?_
    refine AOps.step rfl rfl ?_
    refine AOp.of_run (ARun.mvV (.inl rfl) rfl) ?_
    refine AOps.want rfl rfl (by decide) rfl ?_
    refine AOps.step rfl rfl ?_
    refine AOp.of_run (ARun.mvV (.inl rfl) rfl) ?_
    cases write
    · refine AOps.passU rfl rfl (by decide) rfl rfl rfl ?_
      refine AOps.passU rfl rfl (by decide) rfl rfl rfl ?_
      refine AOps.passU rfl rfl (by decide) rfl rfl rfl ?_
      refine AOps.want rfl rfl (by decide) rfl ?_
      refine AOps.step rfl rfl (AOp.of_run (ARun.pickF rfl rfl) ?_)
      refine AOps.step rfl rfl (AOp.of_run (ARun.pickF rfl rfl) ?_)
      refine AOps.nil ?_
      exact ⟨rfl, rfl, rfl, rfl, rfl, rfl, trivial⟩
    · refine AOps.want rfl rfl (by decide) rfl ?_
      refine AOps.step rfl rfl ?_
      refine AOp.of_run (ARun.fieldAddrL rfl rfl) ?_
      refine AOps.want rfl rfl (by decide) rfl ?_
      refine AOps.step rfl rfl ?_
      refine AOp.of_run (ARun.loadL rfl rfl rfl) ?_
      refine AOps.want rfl rfl (by decide) rfl ?_
      refine AOps.step rfl rfl ?_
      refine AOp.of_run (ARun.not rfl rfl) ?_
      refine AOps.want rfl rfl (by decide) rfl ?_
      refine AOps.step rfl rfl (AOp.of_run (ARun.pickT rfl rfl) ?_)
      refine AOps.step rfl rfl (AOp.of_run (ARun.pickF rfl rfl) ?_)
      refine AOps.nil ?_
      exact ⟨rfl, rfl, rfl, rfl, rfl, rfl, trivial⟩
  rintro _ τ h6 ⟨rfl, rfl, hs⟩
  obtain ⟨t1, rfl⟩ := hs.open_
  (repeat (first | refine AC.seq ?_ | refine AC.block ?_ | refine AC.skip ?_)); refine AC.cond rfl (fun hc => ?_) (fun hc => ?_)
  · (repeat (first | refine AC.seq ?_ | refine AC.block ?_ | refine AC.skip ?_))
    refine AC.region ?_
    refine AOps.step rfl rfl ?_
    refine AOp.of_run (ARun.mvV (.inr rfl) rfl) ?_
    refine AOps.nil ?_
    refine AC.ret (ARes.one rfl (RV.V rfl) ⟨?_, rfl⟩)
    rw [hc]; rfl
  (repeat (first | refine AC.seq ?_ | refine AC.block ?_ | refine AC.skip ?_ | refine AC.exit ?_))
  refine AC.mono (Q := fun ex τ h2 => ex = .normal ∧ h2 = h6 ∧ τ 8 = eB (fitB a f size)) ?_ ?_
  · unfold fitB
    (repeat (first | refine AC.seq ?_ | refine AC.block ?_ | refine AC.skip ?_))
    refine AC.region ?_
    refine AOps.step rfl rfl ?_
    refine AOp.of_run (ARun.fieldAddrL rfl rfl) ?_
    refine AOps.step rfl rfl ?_
    refine AOp.of_run (ARun.loadL rfl rfl rfl) ?_
    refine AOps.step rfl rfl ?_
    refine AOp.of_run (ARun.geq rfl rfl rfl) ?_
    refine AOps.step rfl rfl ?_
    refine AOp.of_run (ARun.mvV (.inl rfl) rfl) ?_
    cases g1 : decide (0 ≤ f.low)
    · refine AOps.passU rfl rfl (by decide) rfl rfl rfl ?_
      refine AOps.passU rfl rfl (by decide) rfl rfl rfl ?_
      refine AOps.passU rfl rfl (by decide) rfl rfl rfl ?_
      refine AOps.passU rfl rfl (by decide) rfl rfl rfl ?_
      refine AOps.passU rfl rfl (by decide) rfl rfl rfl ?_
      refine AOps.step rfl rfl (AOp.of_run (ARun.pickF rfl rfl) ?_)
      refine AOps.step rfl rfl ?_
      refine AOp.of_run (ARun.mvV (.inl rfl) rfl) ?_
      refine AOps.passU rfl rfl (by decide) rfl rfl rfl ?_
      refine AOps.passU rfl rfl (by decide) rfl rfl rfl ?_
      refine AOps.passU rfl rfl (by decide) rfl rfl rfl ?_
      refine AOps.passU rfl rfl (by decide) rfl rfl rfl ?_
      refine AOps.passU rfl rfl (by decide) rfl rfl rfl ?_
      refine AOps.passU rfl rfl (by decide) rfl rfl rfl ?_
      refine AOps.passU rfl rfl (by decide) rfl rfl rfl ?_
      refine AOps.step rfl rfl (AOp.of_run (ARun.pickF rfl rfl) ?_)
      refine AOps.step rfl rfl ?_
      refine AOp.of_run (ARun.mvV (.inr rfl) rfl) ?_
      refine AOps.nil ?_
      exact ⟨rfl, rfl, rfl⟩
    refine AOps.want rfl rfl (by decide) rfl ?_
    refine AOps.step rfl rfl ?_
    refine AOp.of_run (ARun.fieldAddrL rfl rfl) ?_
    refine AOps.want rfl rfl (by decide) rfl ?_
    refine AOps.step rfl rfl ?_
    refine AOp.of_run (ARun.loadL rfl rfl rfl) ?_
    refine AOps.want rfl rfl (by decide) rfl ?_
    refine AOps.step rfl rfl ?_
    refine AOp.of_run (ARun.fieldAddrL rfl rfl) ?_
    refine AOps.want rfl rfl (by decide) rfl ?_
    refine AOps.step rfl rfl ?_
    refine AOp.of_run (ARun.loadL rfl rfl rfl) ?_
    refine AOps.want rfl rfl (by decide) rfl ?_
    refine AOps.step rfl rfl ?_
    refine AOp.of_run (ARun.leq rfl rfl rfl) ?_
    refine AOps.step rfl rfl (AOp.of_run (ARun.pickT rfl rfl) ?_)
    refine AOps.step rfl rfl ?_
    refine AOp.of_run (ARun.mvV (.inl rfl) rfl) ?_
    cases g2 : decide (f.low ≤ f.high)
    · refine AOps.passU rfl rfl (by decide) rfl rfl rfl ?_
      refine AOps.passU rfl rfl (by decide) rfl rfl rfl ?_
      refine AOps.passU rfl rfl (by decide) rfl rfl rfl ?_
      refine AOps.passU rfl rfl (by decide) rfl rfl rfl ?_
      refine AOps.passU rfl rfl (by decide) rfl rfl rfl ?_
      refine AOps.passU rfl rfl (by decide) rfl rfl rfl ?_
      refine AOps.passU rfl rfl (by decide) rfl rfl rfl ?_
      refine AOps.step rfl rfl (AOp.of_run (ARun.pickF rfl rfl) ?_)
      refine AOps.step rfl rfl ?_
      refine AOp.of_run (ARun.mvV (.inr rfl) rfl) ?_
      refine AOps.nil ?_
      exact ⟨rfl, rfl, rfl⟩
    · refine AOps.want rfl rfl (by decide) rfl ?_
      refine AOps.step rfl rfl ?_
      refine AOp.of_run (ARun.fieldAddrL rfl rfl) ?_
      refine AOps.want rfl rfl (by decide) rfl ?_
      refine AOps.step rfl rfl ?_
      refine AOp.of_run (ARun.loadL rfl rfl rfl) ?_
      refine AOps.want rfl rfl (by decide) rfl ?_
      refine AOps.step rfl rfl ?_
      refine AOp.of_run (ARun.fieldAddrL rfl rfl) ?_
      refine AOps.want rfl rfl (by decide) rfl ?_
      refine AOps.step rfl rfl ?_
      refine AOp.of_run (ARun.loadL rfl rfl rfl) ?_
      refine AOps.want rfl rfl (by decide) rfl ?_
      refine AOps.step rfl rfl ?_
      refine AOp.of_run (ARun.mvV (.inl rfl) rfl) ?_
      refine AOps.want rfl rfl (by decide) rfl ?_
      refine AOps.step rfl rfl ?_
      refine AOp.of_run (ARun.sub rfl rfl rfl) ?_
      refine AOps.want rfl rfl (by decide) rfl ?_
      refine AOps.step rfl rfl ?_
      refine AOp.of_run (ARun.leq rfl rfl rfl) ?_
      refine AOps.step rfl rfl (AOp.of_run (ARun.pickT rfl rfl) ?_)
      refine AOps.step rfl rfl ?_
      refine AOp.of_run (ARun.mvV (.inr rfl) rfl) ?_
      refine AOps.nil ?_
      exact ⟨rfl, rfl, rfl⟩
  rintro _ τ h7 ⟨rfl, rfl, hs⟩
  refine AC.ret (ARes.one rfl (RV.tmp' hs) ⟨?_, rfl⟩)
  rw [hc]; rfl
end Go.Proofs.Ytilanageangegaa

/- Walk of the document's answer for layer 20: Free. MADE BY wip/gen_free2.py. -/
set_option linter.unusedVariables false
set_option linter.unusedSimpArgs false
namespace Go.Ab
/-- A block of the base is dropped. -/
theorem Own.drop {h0 h : AHeap} {e : TypeId} {sz n : Nat} {cs : List AVal} {x : AVal} {c : Nat} {k : ABlk} (q : Own (hset h0 c (some k)) e sz n cs x h) (hc : h0 c = none) : Own h0 e sz n cs x (hset h c none) ∧ HSub (hset h c none) h := by
  obtain ⟨hl, ⟨a, rfl, rfl, rfl⟩ | ⟨b, cc, rfl, hb, hn, hm, rfl⟩⟩ := q
  · exact ⟨⟨hl, .inl ⟨a, rfl, rfl, by rw [hset_hset, hset_id hc]⟩⟩, HSub.drop c⟩
  · have hne : b ≠ c := fresh_ne hb
    refine ⟨⟨hl, .inr ⟨b, cc, rfl, fresh_peel hb, hn, hm, ?_⟩⟩, HSub.drop c⟩
    rw [hset_comm _ _ _ hne, hset_hset, hset_id hc]
end Go.Ab
namespace Go.Proofs.Ytilanageangegaa
open Go.Ab

set_option maxHeartbeats 4000000 in
set_option maxRecDepth 10000 in
theorem FreeR_spec (l : DLay) (f : DIr) (facts : List DFact) (h : AHeap) (z : Sz f) (hm : l.maps.length ≤ 1000000) (hfa : facts.length ≤ 2000000) : Sp Try.prog 15 [.agg (eLay l), .agg (eIr f), eFacts facts] h (fun r h' => FreeR l f facts r ∧ h' = h) := by
  have hz := z.parts
  refine Sp.of Try.func15 rfl rfl (by show 3 ≤ 106; decide) ?_
  (repeat (first | refine AC.seq ?_ | refine AC.block ?_ | refine AC.skip ?_))
  refine AC.region ?_
  refine AOps.step rfl rfl ?_
  refine AOp.boxL rfl rfl ?_
  refine AOps.step rfl rfl ?_
  refine AOp.boxL rfl rfl ?_
  refine AOps.step rfl rfl (AOp.alloc rfl (fun b6 hb6 => ?_))
  refine AOps.step rfl rfl ?_
  refine AOp.of_run (ARun.mvV (.inr rfl) rfl) ?_
  refine AOps.step rfl rfl ?_
  refine AOp.of_run (ARun.mvV (.inr rfl) rfl) ?_
  refine AOps.nil ?_
  (repeat (first | refine AC.seq ?_ | refine AC.block ?_ | refine AC.skip ?_))
  refine AC.region ?_
  refine AOps.step rfl rfl ?_
  refine AOp.of_run (ARun.loadNL rfl rfl rfl) ?_
  refine AOps.step rfl rfl (AOp.call_ rfl rfl ((CheckR_spec f _ z).mono ?_))
  rintro _ _ ⟨rfl, rfl⟩
  rcases Classical.em (chkP f) with hchk | hchk
  rotate_left
  · rw [chkE_no hchk]
    refine AOps.step rfl rfl ?_
    refine AOp.of_run (ARun.neq rfl rfl rfl) ?_
    refine AOps.nil ?_
    (repeat (first | refine AC.seq ?_ | refine AC.block ?_ | refine AC.skip ?_)); refine AC.cond rfl (fun hc => ?_) (fun hc => ?_)
    · (repeat (first | refine AC.seq ?_ | refine AC.block ?_ | refine AC.skip ?_))
      refine AC.region ?_
      refine AOps.step rfl rfl ?_
      refine AOp.of_run (ARun.build rfl) ?_
      refine AOps.step rfl rfl (AOp.store rfl rfl (hset_same _ _ _) rfl ?_)
      refine AOps.step rfl rfl ?_
      refine AOp.of_run (ARun.mvV (.inr rfl) rfl) ?_
      refine AOps.step rfl rfl ?_
      refine AOp.of_run (ARun.mvV (.inr rfl) rfl) ?_
      refine AOps.nil ?_
      refine AC.ret (ARes.le (Le.freezeNew (d := 6) hb6 rfl) (ARes.three rfl (RV.cellNL rfl rfl) RV.tmp RV.tmp ⟨.inr ⟨hchk, rfl⟩, rfl⟩))
    · cases hc
  rw [chkE_yes hchk]
  refine AOps.step rfl rfl ?_
  refine AOp.of_run (ARun.neq rfl rfl rfl) ?_
  refine AOps.nil ?_
  (repeat (first | refine AC.seq ?_ | refine AC.block ?_ | refine AC.skip ?_)); refine AC.cond rfl (fun hc => ?_) (fun hc => ?_)
  · cases hc
  (repeat (first | refine AC.seq ?_ | refine AC.block ?_ | refine AC.skip ?_ | refine AC.exit ?_))
  (repeat (first | refine AC.seq ?_ | refine AC.block ?_ | refine AC.skip ?_))
  refine AC.region ?_
  refine AOps.step rfl rfl ?_
  refine AOp.of_run (ARun.fieldAddrL rfl rfl) ?_
  refine AOps.step rfl rfl ?_
  refine AOp.of_run (ARun.loadL rfl rfl rfl) ?_
  refine AOps.step rfl rfl ?_
  refine AOp.of_run (ARun.build rfl) ?_
  refine AOps.step rfl rfl (AOp.alloc rfl (fun b9 hb9 => ?_))
  refine AOps.step rfl rfl (AOp.store rfl rfl (hset_same _ _ _) rfl ?_)
  refine AOps.nil ?_
  (repeat (first | refine AC.seq ?_ | refine AC.block ?_ | refine AC.skip ?_))
  refine AC.region ?_
  refine AOps.step rfl rfl ?_
  refine AOp.of_run (ARun.mvV (.inr rfl) rfl) ?_
  refine AOps.nil ?_
  (repeat (first | refine AC.seq ?_ | refine AC.block ?_ | refine AC.skip ?_))
  refine AC.region ?_
  refine AOps.step rfl rfl ?_
  refine AOp.of_run (ARun.mvV (.inr rfl) rfl) ?_
  refine AOps.nil ?_
  have hb69 : b6 ≠ b9 := (fresh_ne hb9).symm
  change thenA _ _ Exit.normal _ (hset (hset (hset h b6 (some (.cells [nilS, eI 0] 29 2))) b9 (some (.cells [nilS, eI 0] 29 2))) b9 (some (.cells [nilS, eI f.values] 29 2)))
  rw [hset_hset]
  obtain ⟨h6, h6e⟩ : ∃ h6, h6 = hset h b6 (some (.cells [nilS, eI 0] 29 2)) := ⟨_, rfl⟩
  have hB6 : h6 b6 = some (.cells [nilS, eI 0] 29 2) := by rw [h6e]; exact hset_same _ _ _
  have hb9' : h6 b9 = none := by rw [h6e]; exact hb9
  rw [← h6e]
  obtain ⟨HB, hHB⟩ : ∃ HB : AVal → AHeap, ∀ x, HB x = hset h6 b9 (some (.cells [x, eI f.values] 29 2)) := ⟨_, fun _ => rfl⟩
  have gB : ∀ x, HB x b9 = some (.cells [x, eI f.values] 29 2) := fun x => by rw [hHB]; exact hset_same _ _ _
  have g6 : ∀ x, HB x b6 = some (.cells [nilS, eI 0] 29 2) := fun x => by rw [hHB]; exact hset_skip hb69 hB6
  have gput : ∀ x y, hset (HB x) b9 (some (.cells [y, eI f.values] 29 2)) = HB y := fun x y => by rw [hHB, hHB, hset_hset]
  rw [← hHB]
  (repeat (first | refine AC.seq ?_ | refine AC.block ?_ | refine AC.skip ?_ | refine AC.exit ?_))
  refine AC.loop (fun m τ h' => ∃ (i : Nat) (x : AVal), i ≤ f.parts.length ∧ m = f.parts.length - i ∧ Slots τ [(2, eFacts facts), (3, .lp (eLay l) 0), (4, .lp (eIr f) 0), (6, .v (ptr b6)), (9, .v (ptr b9)), (10, eI (goneP l facts (f.parts.take i))), (11, eI i)] ∧
    Own (HB x) 60 10 i (((f.parts.take i).map (freeP l facts)).flatMap ePart) x h') f.parts.length ?_ ?_
  · exact ⟨0, _, Nat.zero_le _, rfl, ⟨rfl, rfl, rfl, rfl, rfl, rfl, rfl, trivial⟩, Own.nil _ 60 10⟩
  rintro m τ h3 ⟨i, x, hi, rfl, hs, ho⟩
  obtain ⟨t2, rfl⟩ := hs.open_
  (repeat (first | refine AC.seq ?_ | refine AC.block ?_ | refine AC.skip ?_))
  refine AC.region ?_
  refine AOps.step rfl rfl ?_
  refine AOp.of_run (ARun.mvV (.inl rfl) rfl) ?_
  refine AOps.step rfl rfl ?_
  refine AOp.of_run (ARun.fieldAddrL rfl rfl) ?_
  refine AOps.step rfl rfl ?_
  refine AOp.of_run (ARun.loadL rfl rfl rfl) ?_
  refine AOps.step rfl rfl ?_
  refine AOp.of_run (ARun.lenL rfl rfl) ?_
  refine AOps.step rfl rfl ?_
  refine AOp.of_run (ARun.lss rfl rfl rfl) ?_
  refine AOps.nil ?_
  (repeat (first | refine AC.seq ?_ | refine AC.block ?_ | refine AC.skip ?_)); refine AC.cond rfl (fun hc => ?_) (fun hc => ?_)
  · have hlt : i < f.parts.length := by simpa using hc
    have hrd : rdc (f.parts.flatMap ePart) ((i : Int).toNat * 10) 10 = some (ePart f.parts[i]) := by rw [Int.toNat_natCast]; exact rdc_flatMap ePart_len hlt
    have hgone := goneP_take l facts hlt
    have hgle := goneP_le l facts (f.parts.take i) fun p hp => (z.part _ (List.mem_of_mem_take hp)).nodes
    rw [List.length_take] at hgle
    have htake := take_succ_map (freeP l facts) hlt
    have zp := z.part _ (List.getElem_mem hlt)
    generalize f.parts[i] = p at *
    have hp2 := zp.nodes
    generalize hGP : goneP l facts (f.parts.take i) = G0 at *
    (repeat (first | refine AC.seq ?_ | refine AC.block ?_ | refine AC.skip ?_ | refine AC.exit ?_))
    (repeat (first | refine AC.seq ?_ | refine AC.block ?_ | refine AC.skip ?_))
    refine AC.region ?_
    refine AOps.step rfl rfl ?_
    refine AOp.of_run (ARun.fieldAddrL rfl rfl) ?_
    refine AOps.step rfl rfl ?_
    refine AOp.of_run (ARun.loadL rfl rfl rfl) ?_
    refine AOps.step rfl rfl ?_
    refine AOp.of_run (ARun.mvV (.inl rfl) rfl) ?_
    refine AOps.step rfl rfl ?_
    refine AOp.of_run (ARun.indexAddrL rfl rfl rfl (by omega) (by omega)) ?_
    refine AOps.step rfl rfl (AOp.of_run (ARun.loadNL rfl rfl hrd) ?_)
    refine AOps.step rfl rfl (AOp.alloc rfl (fun b12 hb12 => ?_))
    refine AOps.step rfl rfl (AOp.store rfl rfl (hset_same _ _ _) rfl ?_)
    refine AOps.nil ?_
    rw [hset_hset]
    (repeat (first | refine AC.seq ?_ | refine AC.block ?_ | refine AC.skip ?_))
    refine AC.region ?_
    refine AOps.step rfl rfl (AOp.buildOwn rfl (fun x1 h1 ho1 => ?_))
    refine AOps.step rfl rfl ?_
    refine AOp.of_run (ARun.fieldAddr rfl rfl) ?_
    refine AOps.step rfl rfl (AOp.of_run (ARun.load rfl rfl (ho1.get (hset_same _ _ _)) rfl) ?_)
    refine AOps.step rfl rfl (AOp.append rfl ho1 (RdSl.ls (flatMap_length _ _ eNode_len p.nodes)) (by unfold maxLen; omega) (by omega) (fun xn h4 ho4 => ?_) (all_flatMap (fun _ => rfl) _))
    rw [Nat.zero_add] at ho4
    change Own (Ab.hset h3 b12 (some (.cells (ePart p) 60 10))) 64 12 p.nodes.length (p.nodes.flatMap eNode) xn h4 at ho4
    obtain ⟨an, cn, rfl, hcn⟩ := ho4.isSlice
    refine AOps.step rfl rfl ?_
    refine AOp.of_run (ARun.fieldAddr rfl rfl) ?_
    refine AOps.step rfl rfl (AOp.store1 rfl rfl (ho4.get (hset_same _ _ _)) rfl (by show 2 < 10; decide) ?_)
    refine AOps.nil ?_
    have hoN := ho4.upd (.cells ((ePart p).set 2 (.v (.slice an p.nodes.length cn))) 60 10) (hset_same _ _ _)
    rw [hset_hset] at hoN
    change thenA _ _ Exit.normal _ (Ab.hset h4 b12 (some (.cells ((ePart p).set 2 (.v (.slice an p.nodes.length cn))) 60 10)))
    obtain ⟨HQ, hHQ⟩ : ∃ HQ : AHeap, HQ = Ab.hset h3 b12 (some (.cells ((ePart p).set 2 (.v (.slice an p.nodes.length cn))) 60 10)) := ⟨_, rfl⟩
    rw [← hHQ] at hoN
    have gQ : HQ b12 = some (.cells ((ePart p).set 2 (.v (.slice an p.nodes.length cn))) 60 10) := by rw [hHQ]; exact hset_same _ _ _
    generalize Ab.hset h4 b12 (some (.cells ((ePart p).set 2 (.v (.slice an p.nodes.length cn))) 60 10)) = H5 at *
    (repeat (first | refine AC.seq ?_ | refine AC.block ?_ | refine AC.skip ?_))
    refine AC.region ?_
    refine AOps.step rfl rfl ?_
    refine AOp.of_run (ARun.mvV (.inr rfl) rfl) ?_
    refine AOps.nil ?_
    (repeat (first | refine AC.seq ?_ | refine AC.block ?_ | refine AC.skip ?_ | refine AC.exit ?_))
    refine AC.loop (fun m τ h' => ∃ k : Nat, k ≤ p.nodes.length ∧ m = p.nodes.length - k ∧ Slots τ [(2, eFacts facts), (3, .lp (eLay l) 0), (4, .lp (eIr f) 0), (6, .v (ptr b6)), (9, .v (ptr b9)), (10, eI ((G0 + goneN l facts (p.nodes.take k) : Nat))), (11, eI i), (12, .v (ptr b12)), (13, eI k)] ∧
      Own HQ 64 12 p.nodes.length ((mixL (freeN l facts) p.nodes k).flatMap eNode) (.v (.slice an p.nodes.length cn)) h') p.nodes.length ?_ ?_
    · exact ⟨0, Nat.zero_le _, rfl, ⟨rfl, rfl, rfl, rfl, rfl, rfl, rfl, rfl, rfl, trivial⟩, by rw [mixL_zero]; exact hoN⟩
    rintro m τ h6' ⟨k, hk, rfl, hs, hoK⟩
    obtain ⟨t3, rfl⟩ := hs.open_
    (repeat (first | refine AC.seq ?_ | refine AC.block ?_ | refine AC.skip ?_))
    refine AC.region ?_
    refine AOps.step rfl rfl ?_
    refine AOp.of_run (ARun.mvV (.inl rfl) rfl) ?_
    refine AOps.step rfl rfl ?_
    refine AOp.of_run (ARun.fieldAddr rfl rfl) ?_
    refine AOps.step rfl rfl (AOp.of_run (ARun.load rfl rfl (hoK.get gQ) rfl) ?_)
    refine AOps.step rfl rfl ?_
    refine AOp.of_run (ARun.lenV rfl rfl) ?_
    refine AOps.step rfl rfl ?_
    refine AOp.of_run (ARun.lss rfl rfl rfl) ?_
    refine AOps.nil ?_
    (repeat (first | refine AC.seq ?_ | refine AC.block ?_ | refine AC.skip ?_)); refine AC.cond rfl (fun hc => ?_) (fun hc => ?_)
    · have hlt3 : k < p.nodes.length := by simpa using hc
      obtain ⟨bn, c2, hx, hbn, hnc2, hcm2, rfl⟩ := hoK.blk (by omega)
      injection hx with hx
      injection hx with hx1 _ hx3
      subst hx1; subst hx3
      obtain ⟨hl3, he3⟩ := mixL_get (freeN l facts) hlt3
      have hNl := mixL_len (freeN l facts) p.nodes k
      have hNset := mixL_set (freeN l facts) hlt3
      have hNsame := mixL_same (freeN l facts) hlt3
      have hgn := goneN_take l facts hlt3
      have hgnle := goneN_le l facts (p.nodes.take k)
      rw [List.length_take] at hgnle
      have hflN := flatMap_length eNode 12 eNode_len (mixL (freeN l facts) p.nodes k)
      have hrdN : rdc ((mixL (freeN l facts) p.nodes k).flatMap eNode) (0 + (k : Int).toNat * 12) 12 = some (eNode p.nodes[k]) := by
        rw [Nat.zero_add, Int.toNat_natCast, rdc_flatMap eNode_len hl3, he3]
      have hsetN : ∀ v, freeN l facts p.nodes[k] = { p.nodes[k] with guard := v } → ((mixL (freeN l facts) p.nodes k).flatMap eNode).set (0 + (k : Int).toNat * 12 + 9) (.v (.bool v)) = (mixL (freeN l facts) p.nodes (k + 1)).flatMap eNode := fun v hv => by
        rw [Nat.zero_add, Int.toNat_natCast, set_flatMap eNode_len hl3 (by decide) { p.nodes[k] with guard := v } (.v (.bool v)) (by rw [he3]; rfl), ← hv, hNset]
      generalize hX : p.nodes[k] = x' at *
      have hBN : Ab.hset HQ bn (some (.cells ((mixL (freeN l facts) p.nodes k).flatMap eNode) 64 (cn * 12))) bn = some (.cells ((mixL (freeN l facts) p.nodes k).flatMap eNode) 64 (cn * 12)) := hset_same _ _ _
      have hB12 : Ab.hset HQ bn (some (.cells ((mixL (freeN l facts) p.nodes k).flatMap eNode) 64 (cn * 12))) b12 = some (.cells ((ePart p).set 2 (.v (.slice (some ⟨bn, 0, none⟩) p.nodes.length cn))) 60 10) := hoK.get gQ
      have hno : guardB l facts x' = false → freeN l facts x' = x' := fun e => by unfold freeN; rw [e]; rfl
      have hyes : guardB l facts x' = true → freeN l facts x' = { x' with guard := false } := fun e => by unfold freeN; rw [if_pos e]
      have hclose : ∀ L : List DNode, L.length = p.nodes.length → Own HQ 64 12 p.nodes.length (L.flatMap eNode) (.v (.slice (some ⟨bn, 0, none⟩) p.nodes.length cn)) (Ab.hset HQ bn (some (.cells (L.flatMap eNode) 64 (cn * 12)))) := fun L hL =>
        ⟨by rw [flatMap_length eNode 12 eNode_len, hL], .inr ⟨bn, cn, rfl, hbn, hnc2, hcm2, rfl⟩⟩
      (repeat (first | refine AC.seq ?_ | refine AC.block ?_ | refine AC.skip ?_ | refine AC.exit ?_))
      (repeat (first | refine AC.seq ?_ | refine AC.block ?_ | refine AC.skip ?_))
      refine AC.region ?_
      refine AOps.step rfl rfl ?_
      refine AOp.of_run (ARun.fieldAddr rfl rfl) ?_
      refine AOps.step rfl rfl (AOp.of_run (ARun.load rfl rfl hB12 rfl) ?_)
      refine AOps.step rfl rfl ?_
      refine AOp.of_run (ARun.mvV (.inl rfl) rfl) ?_
      refine AOps.step rfl rfl ?_
      refine AOp.of_run (ARun.indexAddr rfl rfl rfl (by omega) (by omega)) ?_
      refine AOps.step rfl rfl (AOp.of_run (ARun.loadN rfl rfl hBN hrdN) ?_)
      refine AOps.step rfl rfl (AOp.alloc rfl (fun b14 hb14 => ?_))
      refine AOps.step rfl rfl (AOp.store rfl rfl (hset_same _ _ _) rfl ?_)
      refine AOps.nil ?_
      refine AC.le (Le.freezeNew (d := 14) hb14 rfl) ?_
      have hkeep : guardB l facts x' = false → G0 + goneN l facts (p.nodes.take k) = G0 + goneN l facts (p.nodes.take (k + 1)) := fun e => by rw [hgn, e]; simp
      (repeat (first | refine AC.seq ?_ | refine AC.block ?_ | refine AC.skip ?_ | refine AC.exit ?_))
      refine AC.mono (Q := fun ex τ h2 => ex = .normal ∧ h2 = Ab.hset HQ bn (some (.cells ((mixL (freeN l facts) p.nodes k).flatMap eNode) 64 (cn * 12))) ∧ Slots τ [(2, eFacts facts), (3, .lp (eLay l) 0), (4, .lp (eIr f) 0), (6, .v (ptr b6)), (9, .v (ptr b9)), (10, eI ((G0 + goneN l facts (p.nodes.take k) : Nat))), (11, eI i), (12, .v (ptr b12)), (13, eI k), (14, .lp (eNode x') 0), (15, eB (decide (x'.op = 5) || decide (x'.op = 6)))]) ?_ ?_
      · (repeat (first | refine AC.seq ?_ | refine AC.block ?_ | refine AC.skip ?_))
        refine AC.region ?_
        refine AOps.step rfl rfl ?_
        refine AOp.of_run (ARun.fieldAddrL rfl rfl) ?_
        refine AOps.step rfl rfl ?_
        refine AOp.of_run (ARun.loadL rfl rfl rfl) ?_
        refine AOps.step rfl rfl ?_
        refine AOp.of_run (ARun.eql rfl rfl rfl) ?_
        refine AOps.step rfl rfl ?_
        refine AOp.of_run (ARun.mvV (.inl rfl) rfl) ?_
        cases e5 : decide (x'.op = 5)
        · refine AOps.want rfl rfl (by decide) rfl ?_
          refine AOps.step rfl rfl ?_
          refine AOp.of_run (ARun.fieldAddrL rfl rfl) ?_
          refine AOps.want rfl rfl (by decide) rfl ?_
          refine AOps.step rfl rfl ?_
          refine AOp.of_run (ARun.loadL rfl rfl rfl) ?_
          refine AOps.want rfl rfl (by decide) rfl ?_
          refine AOps.step rfl rfl ?_
          refine AOp.of_run (ARun.eql rfl rfl rfl) ?_
          refine AOps.step rfl rfl (AOp.of_run (ARun.pickF rfl rfl) ?_)
          refine AOps.step rfl rfl ?_
          refine AOp.of_run (ARun.mvV (.inr rfl) rfl) ?_
          refine AOps.nil ?_
          exact ⟨rfl, rfl, rfl, rfl, rfl, rfl, rfl, rfl, rfl, rfl, rfl, rfl, rfl, trivial⟩
        · refine AOps.passU rfl rfl (by decide) rfl rfl rfl ?_
          refine AOps.passU rfl rfl (by decide) rfl rfl rfl ?_
          refine AOps.passU rfl rfl (by decide) rfl rfl rfl ?_
          refine AOps.step rfl rfl (AOp.of_run (ARun.pickT rfl rfl) ?_)
          refine AOps.step rfl rfl ?_
          refine AOp.of_run (ARun.mvV (.inr rfl) rfl) ?_
          refine AOps.nil ?_
          exact ⟨rfl, rfl, rfl, rfl, rfl, rfl, rfl, rfl, rfl, rfl, rfl, rfl, rfl, trivial⟩
      rintro _ τ _ ⟨rfl, rfl, hs⟩
      obtain ⟨t4, rfl⟩ := hs.open_
      (repeat (first | refine AC.seq ?_ | refine AC.block ?_ | refine AC.skip ?_ | refine AC.exit ?_))
      refine AC.mono (Q := fun ex τ h2 => ex = .normal ∧ h2 = Ab.hset HQ bn (some (.cells ((mixL (freeN l facts) p.nodes k).flatMap eNode) 64 (cn * 12))) ∧ Slots τ [(2, eFacts facts), (3, .lp (eLay l) 0), (4, .lp (eIr f) 0), (6, .v (ptr b6)), (9, .v (ptr b9)), (10, eI ((G0 + goneN l facts (p.nodes.take k) : Nat))), (11, eI i), (12, .v (ptr b12)), (13, eI k), (14, .lp (eNode x') 0), (90, eB (guardB l facts x'))]) ?_ ?_
      · cases eo : (decide (x'.op = 5) || decide (x'.op = 6))
        · have hg0 : guardB l facts x' = false := by unfold guardB; rw [eo]; rfl
          rw [hg0]
          (repeat (first | refine AC.seq ?_ | refine AC.block ?_ | refine AC.skip ?_))
          refine AC.drawnH [0, 1, 2, 3, 4, 5, 6, 7, 8, 9, 10, 11, 12, 13, 14, 15, 16, 17, 18, 19, 20, 21, 22, 23, 24, 25, 26, 27, 28, 30] [3, 7, 12, 18, 21, 23, 25, 27] [0, 1, 2, 3, 4, 5, 6, 7, 8, 9, 10, 11, 12, 13, 14, 15, 16, 17, 18, 19, 20, 21, 22, 23, 24, 25, 26, 27, 28, 29, 30] mixed (by kernel_rfl) ?_
          refine RunA.pure rfl rfl rfl rfl rfl (fun _ => ARun.mvV (.inl rfl) rfl) ?_
          refine RunA.pure rfl rfl rfl rfl rfl (fun _ => ARun.mvV (.inl rfl) rfl) ?_
          refine RunA.passU rfl rfl rfl rfl (by decide) rfl rfl (fun _ _ => (HSub.refl _)) ?_
          refine RunA.passU rfl rfl rfl rfl (by decide) rfl rfl (fun _ _ => (HSub.refl _)) ?_
          refine RunA.pure rfl rfl rfl rfl rfl (fun _ => ARun.pickF rfl rfl) ?_
          refine RunA.pure rfl rfl rfl rfl rfl (fun _ => ARun.mvV (.inl rfl) rfl) ?_
          refine RunA.passU rfl rfl rfl rfl (by decide) rfl rfl (fun _ _ => (HSub.refl _)) ?_
          refine RunA.passU rfl rfl rfl rfl (by decide) rfl rfl (fun _ _ => (HSub.refl _)) ?_
          refine RunA.passU rfl rfl rfl rfl (by decide) rfl rfl (fun _ _ => (HSub.refl _)) ?_
          refine RunA.pure rfl rfl rfl rfl rfl (fun _ => ARun.pickF rfl rfl) ?_
          refine RunA.pure rfl rfl rfl rfl rfl (fun _ => ARun.mvV (.inl rfl) rfl) ?_
          refine RunA.passU rfl rfl rfl rfl (by decide) rfl rfl (fun _ _ => (HSub.refl _)) ?_
          refine RunA.passU rfl rfl rfl rfl (by decide) rfl rfl (fun _ _ => (HSub.refl _)) ?_
          refine RunA.passU rfl rfl rfl rfl (by decide) rfl rfl (fun _ _ => (HSub.refl _)) ?_
          refine RunA.passU rfl rfl rfl rfl (by decide) rfl rfl (fun _ _ => (HSub.refl _)) ?_
          refine RunA.passU rfl rfl rfl rfl (by decide) rfl rfl (fun _ _ => (HSub.refl _)) ?_
          refine RunA.pure rfl rfl rfl rfl rfl (fun _ => ARun.pickF rfl rfl) ?_
          refine RunA.pure rfl rfl rfl rfl rfl (fun _ => ARun.mvV (.inl rfl) rfl) ?_
          refine RunA.passU rfl rfl rfl rfl (by decide) rfl rfl (fun _ _ => (HSub.refl _)) ?_
          refine RunA.passU rfl rfl rfl rfl (by decide) rfl rfl (fun _ _ => (HSub.refl _)) ?_
          refine RunA.passU rfl rfl rfl rfl (by decide) rfl rfl (fun _ _ => (HSub.refl _)) ?_
          refine RunA.passU rfl rfl rfl rfl (by decide) rfl rfl (fun _ _ => (HSub.refl _)) ?_
          refine RunA.passU rfl rfl rfl rfl (by decide) rfl rfl (fun _ _ => (HSub.refl _)) ?_
          refine RunA.passU rfl rfl rfl rfl (by decide) rfl rfl (fun _ _ => (HSub.refl _)) ?_
          refine RunA.passU rfl rfl rfl rfl (by decide) rfl rfl (fun _ _ => (HSub.refl _)) ?_
          refine RunA.passU rfl rfl rfl rfl (by decide) rfl rfl (fun _ _ => (HSub.refl _)) ?_
          refine RunA.passU rfl rfl rfl rfl (by decide) rfl rfl (fun _ _ => (HSub.refl _)) ?_
          refine RunA.passU rfl rfl rfl rfl (by decide) rfl rfl (fun _ _ => (HSub.refl _)) ?_
          refine RunA.passU rfl rfl rfl rfl (by decide) rfl rfl (fun _ _ => (HSub.refl _)) ?_
          refine RunA.passU rfl rfl rfl rfl (by decide) rfl rfl (fun _ _ => (HSub.refl _)) ?_
          refine RunA.pure rfl rfl rfl rfl rfl (fun _ => ARun.pickF rfl rfl) ?_
          refine RunA.nil ?_
          exact ⟨rfl, rfl, rfl, rfl, rfl, rfl, rfl, rfl, rfl, rfl, rfl, rfl, rfl, trivial⟩
        cases e1 : x'.guard
        · have hg0 : guardB l facts x' = false := by unfold guardB; rw [e1]; simp
          rw [hg0]
          (repeat (first | refine AC.seq ?_ | refine AC.block ?_ | refine AC.skip ?_))
          refine AC.drawnH [0, 1, 2, 3, 4, 5, 6, 7, 8, 9, 10, 11, 12, 13, 14, 15, 16, 17, 18, 19, 20, 21, 22, 23, 24, 25, 26, 27, 28, 30] [3, 7, 12, 18, 21, 23, 25, 27] [0, 1, 2, 3, 4, 5, 6, 7, 8, 9, 10, 11, 12, 13, 14, 15, 16, 17, 18, 19, 20, 21, 22, 23, 24, 25, 26, 27, 28, 29, 30] mixed (by kernel_rfl) ?_
          refine RunA.pure rfl rfl rfl rfl rfl (fun _ => ARun.mvV (.inl rfl) rfl) ?_
          refine RunA.pure rfl rfl rfl rfl rfl (fun _ => ARun.mvV (.inl rfl) rfl) ?_
          refine RunA.pureG rfl rfl rfl rfl rfl rfl (by decide) rfl (fun _ => ARun.fieldAddrL rfl rfl) ?_
          refine RunA.calmG rfl rfl rfl rfl rfl rfl (by decide) rfl (HSub.refl _) (fun _ hsub => ARun.loadL rfl rfl (congrArg (fun v => some (eB v)) e1)) ?_
          refine RunA.pure rfl rfl rfl rfl rfl (fun _ => ARun.pickT rfl rfl) ?_
          refine RunA.pure rfl rfl rfl rfl rfl (fun _ => ARun.mvV (.inl rfl) rfl) ?_
          refine RunA.passU rfl rfl rfl rfl (by decide) rfl rfl (fun _ _ => (HSub.refl _)) ?_
          refine RunA.passU rfl rfl rfl rfl (by decide) rfl rfl (fun _ _ => (HSub.refl _)) ?_
          refine RunA.passU rfl rfl rfl rfl (by decide) rfl rfl (fun _ _ => (HSub.refl _)) ?_
          refine RunA.pure rfl rfl rfl rfl rfl (fun _ => ARun.pickF rfl rfl) ?_
          refine RunA.pure rfl rfl rfl rfl rfl (fun _ => ARun.mvV (.inl rfl) rfl) ?_
          refine RunA.passU rfl rfl rfl rfl (by decide) rfl rfl (fun _ _ => (HSub.refl _)) ?_
          refine RunA.passU rfl rfl rfl rfl (by decide) rfl rfl (fun _ _ => (HSub.refl _)) ?_
          refine RunA.passU rfl rfl rfl rfl (by decide) rfl rfl (fun _ _ => (HSub.refl _)) ?_
          refine RunA.passU rfl rfl rfl rfl (by decide) rfl rfl (fun _ _ => (HSub.refl _)) ?_
          refine RunA.passU rfl rfl rfl rfl (by decide) rfl rfl (fun _ _ => (HSub.refl _)) ?_
          refine RunA.pure rfl rfl rfl rfl rfl (fun _ => ARun.pickF rfl rfl) ?_
          refine RunA.pure rfl rfl rfl rfl rfl (fun _ => ARun.mvV (.inl rfl) rfl) ?_
          refine RunA.passU rfl rfl rfl rfl (by decide) rfl rfl (fun _ _ => (HSub.refl _)) ?_
          refine RunA.passU rfl rfl rfl rfl (by decide) rfl rfl (fun _ _ => (HSub.refl _)) ?_
          refine RunA.passU rfl rfl rfl rfl (by decide) rfl rfl (fun _ _ => (HSub.refl _)) ?_
          refine RunA.passU rfl rfl rfl rfl (by decide) rfl rfl (fun _ _ => (HSub.refl _)) ?_
          refine RunA.passU rfl rfl rfl rfl (by decide) rfl rfl (fun _ _ => (HSub.refl _)) ?_
          refine RunA.passU rfl rfl rfl rfl (by decide) rfl rfl (fun _ _ => (HSub.refl _)) ?_
          refine RunA.passU rfl rfl rfl rfl (by decide) rfl rfl (fun _ _ => (HSub.refl _)) ?_
          refine RunA.passU rfl rfl rfl rfl (by decide) rfl rfl (fun _ _ => (HSub.refl _)) ?_
          refine RunA.passU rfl rfl rfl rfl (by decide) rfl rfl (fun _ _ => (HSub.refl _)) ?_
          refine RunA.passU rfl rfl rfl rfl (by decide) rfl rfl (fun _ _ => (HSub.refl _)) ?_
          refine RunA.passU rfl rfl rfl rfl (by decide) rfl rfl (fun _ _ => (HSub.refl _)) ?_
          refine RunA.passU rfl rfl rfl rfl (by decide) rfl rfl (fun _ _ => (HSub.refl _)) ?_
          refine RunA.pure rfl rfl rfl rfl rfl (fun _ => ARun.pickF rfl rfl) ?_
          refine RunA.nil ?_
          exact ⟨rfl, rfl, rfl, rfl, rfl, rfl, rfl, rfl, rfl, rfl, rfl, rfl, rfl, trivial⟩
        cases e2 : decide (0 ≤ x'.at_)
        · have hg0 : guardB l facts x' = false := by unfold guardB; rw [e2]; simp
          rw [hg0]
          (repeat (first | refine AC.seq ?_ | refine AC.block ?_ | refine AC.skip ?_))
          refine AC.drawnH [0, 1, 2, 3, 4, 5, 6, 7, 8, 9, 10, 11, 12, 13, 14, 15, 16, 17, 18, 19, 20, 21, 22, 23, 24, 25, 26, 27, 28, 30] [3, 7, 12, 18, 21, 23, 25, 27] [0, 1, 2, 3, 4, 5, 6, 7, 8, 9, 10, 11, 12, 13, 14, 15, 16, 17, 18, 19, 20, 21, 22, 23, 24, 25, 26, 27, 28, 29, 30] mixed (by kernel_rfl) ?_
          refine RunA.pure rfl rfl rfl rfl rfl (fun _ => ARun.mvV (.inl rfl) rfl) ?_
          refine RunA.pure rfl rfl rfl rfl rfl (fun _ => ARun.mvV (.inl rfl) rfl) ?_
          refine RunA.pureG rfl rfl rfl rfl rfl rfl (by decide) rfl (fun _ => ARun.fieldAddrL rfl rfl) ?_
          refine RunA.calmG rfl rfl rfl rfl rfl rfl (by decide) rfl (HSub.refl _) (fun _ hsub => ARun.loadL rfl rfl (congrArg (fun v => some (eB v)) e1)) ?_
          refine RunA.pure rfl rfl rfl rfl rfl (fun _ => ARun.pickT rfl rfl) ?_
          refine RunA.pure rfl rfl rfl rfl rfl (fun _ => ARun.mvV (.inl rfl) rfl) ?_
          refine RunA.pureG rfl rfl rfl rfl rfl rfl (by decide) rfl (fun _ => ARun.fieldAddrL rfl rfl) ?_
          refine RunA.calmG rfl rfl rfl rfl rfl rfl (by decide) rfl (HSub.refl _) (fun _ hsub => ARun.loadL rfl rfl rfl) ?_
          refine RunA.pureG rfl rfl rfl rfl rfl rfl (by decide) rfl (fun _ => ARun.geqV rfl rfl rfl e2) ?_
          refine RunA.pure rfl rfl rfl rfl rfl (fun _ => ARun.pickT rfl rfl) ?_
          refine RunA.pure rfl rfl rfl rfl rfl (fun _ => ARun.mvV (.inl rfl) rfl) ?_
          refine RunA.passU rfl rfl rfl rfl (by decide) rfl rfl (fun _ _ => (HSub.refl _)) ?_
          refine RunA.passU rfl rfl rfl rfl (by decide) rfl rfl (fun _ _ => (HSub.refl _)) ?_
          refine RunA.passU rfl rfl rfl rfl (by decide) rfl rfl (fun _ _ => (HSub.refl _)) ?_
          refine RunA.passU rfl rfl rfl rfl (by decide) rfl rfl (fun _ _ => (HSub.refl _)) ?_
          refine RunA.passU rfl rfl rfl rfl (by decide) rfl rfl (fun _ _ => (HSub.refl _)) ?_
          refine RunA.pure rfl rfl rfl rfl rfl (fun _ => ARun.pickF rfl rfl) ?_
          refine RunA.pure rfl rfl rfl rfl rfl (fun _ => ARun.mvV (.inl rfl) rfl) ?_
          refine RunA.passU rfl rfl rfl rfl (by decide) rfl rfl (fun _ _ => (HSub.refl _)) ?_
          refine RunA.passU rfl rfl rfl rfl (by decide) rfl rfl (fun _ _ => (HSub.refl _)) ?_
          refine RunA.passU rfl rfl rfl rfl (by decide) rfl rfl (fun _ _ => (HSub.refl _)) ?_
          refine RunA.passU rfl rfl rfl rfl (by decide) rfl rfl (fun _ _ => (HSub.refl _)) ?_
          refine RunA.passU rfl rfl rfl rfl (by decide) rfl rfl (fun _ _ => (HSub.refl _)) ?_
          refine RunA.passU rfl rfl rfl rfl (by decide) rfl rfl (fun _ _ => (HSub.refl _)) ?_
          refine RunA.passU rfl rfl rfl rfl (by decide) rfl rfl (fun _ _ => (HSub.refl _)) ?_
          refine RunA.passU rfl rfl rfl rfl (by decide) rfl rfl (fun _ _ => (HSub.refl _)) ?_
          refine RunA.passU rfl rfl rfl rfl (by decide) rfl rfl (fun _ _ => (HSub.refl _)) ?_
          refine RunA.passU rfl rfl rfl rfl (by decide) rfl rfl (fun _ _ => (HSub.refl _)) ?_
          refine RunA.passU rfl rfl rfl rfl (by decide) rfl rfl (fun _ _ => (HSub.refl _)) ?_
          refine RunA.passU rfl rfl rfl rfl (by decide) rfl rfl (fun _ _ => (HSub.refl _)) ?_
          refine RunA.pure rfl rfl rfl rfl rfl (fun _ => ARun.pickF rfl rfl) ?_
          refine RunA.nil ?_
          exact ⟨rfl, rfl, rfl, rfl, rfl, rfl, rfl, rfl, rfl, rfl, rfl, rfl, rfl, trivial⟩
        have h0 : 0 ≤ x'.at_ := by simpa using e2
        cases e3 : decide (x'.at_ < facts.length)
        · have h1 : facts[x'.at_.toNat]? = none := List.getElem?_eq_none (by have := of_decide_eq_false e3; omega)
          have hg0 : guardB l facts x' = false := by unfold guardB; rw [h1]; simp
          rw [hg0]
          (repeat (first | refine AC.seq ?_ | refine AC.block ?_ | refine AC.skip ?_))
          refine AC.drawnH [0, 1, 2, 3, 4, 5, 6, 7, 8, 9, 10, 11, 12, 13, 14, 15, 16, 17, 18, 19, 20, 21, 22, 23, 24, 25, 26, 27, 28, 30] [3, 7, 12, 18, 21, 23, 25, 27] [0, 1, 2, 3, 4, 5, 6, 7, 8, 9, 10, 11, 12, 13, 14, 15, 16, 17, 18, 19, 20, 21, 22, 23, 24, 25, 26, 27, 28, 29, 30] mixed (by kernel_rfl) ?_
          refine RunA.pure rfl rfl rfl rfl rfl (fun _ => ARun.mvV (.inl rfl) rfl) ?_
          refine RunA.pure rfl rfl rfl rfl rfl (fun _ => ARun.mvV (.inl rfl) rfl) ?_
          refine RunA.pureG rfl rfl rfl rfl rfl rfl (by decide) rfl (fun _ => ARun.fieldAddrL rfl rfl) ?_
          refine RunA.calmG rfl rfl rfl rfl rfl rfl (by decide) rfl (HSub.refl _) (fun _ hsub => ARun.loadL rfl rfl (congrArg (fun v => some (eB v)) e1)) ?_
          refine RunA.pure rfl rfl rfl rfl rfl (fun _ => ARun.pickT rfl rfl) ?_
          refine RunA.pure rfl rfl rfl rfl rfl (fun _ => ARun.mvV (.inl rfl) rfl) ?_
          refine RunA.pureG rfl rfl rfl rfl rfl rfl (by decide) rfl (fun _ => ARun.fieldAddrL rfl rfl) ?_
          refine RunA.calmG rfl rfl rfl rfl rfl rfl (by decide) rfl (HSub.refl _) (fun _ hsub => ARun.loadL rfl rfl rfl) ?_
          refine RunA.pureG rfl rfl rfl rfl rfl rfl (by decide) rfl (fun _ => ARun.geqV rfl rfl rfl e2) ?_
          refine RunA.pure rfl rfl rfl rfl rfl (fun _ => ARun.pickT rfl rfl) ?_
          refine RunA.pure rfl rfl rfl rfl rfl (fun _ => ARun.mvV (.inl rfl) rfl) ?_
          refine RunA.pureG rfl rfl rfl rfl rfl rfl (by decide) rfl (fun _ => ARun.fieldAddrL rfl rfl) ?_
          refine RunA.calmG rfl rfl rfl rfl rfl rfl (by decide) rfl (HSub.refl _) (fun _ hsub => ARun.loadL rfl rfl rfl) ?_
          refine RunA.pureG rfl rfl rfl rfl rfl rfl (by decide) rfl (fun _ => ARun.mvL (.inl rfl) rfl) ?_
          refine RunA.pureG rfl rfl rfl rfl rfl rfl (by decide) rfl (fun _ => ARun.lenL rfl rfl) ?_
          refine RunA.pureG rfl rfl rfl rfl rfl rfl (by decide) rfl (fun _ => ARun.lssV rfl rfl rfl e3) ?_
          refine RunA.pure rfl rfl rfl rfl rfl (fun _ => ARun.pickT rfl rfl) ?_
          refine RunA.pure rfl rfl rfl rfl rfl (fun _ => ARun.mvV (.inl rfl) rfl) ?_
          refine RunA.passU rfl rfl rfl rfl (by decide) rfl rfl (fun _ _ => (HSub.refl _)) ?_
          refine RunA.passU rfl rfl rfl rfl (by decide) rfl rfl (fun _ _ => (HSub.refl _)) ?_
          refine RunA.passU rfl rfl rfl rfl (by decide) rfl rfl (fun _ _ => (HSub.refl _)) ?_
          refine RunA.passU rfl rfl rfl rfl (by decide) rfl rfl (fun _ _ => (HSub.refl _)) ?_
          refine RunA.passU rfl rfl rfl rfl (by decide) rfl rfl (fun _ _ => (HSub.refl _)) ?_
          refine RunA.passU rfl rfl rfl rfl (by decide) rfl rfl (fun _ _ => (HSub.refl _)) ?_
          refine RunA.passU rfl rfl rfl rfl (by decide) rfl rfl (fun _ _ => (HSub.refl _)) ?_
          refine RunA.passU rfl rfl rfl rfl (by decide) rfl rfl (fun _ _ => (HSub.refl _)) ?_
          refine RunA.passU rfl rfl rfl rfl (by decide) rfl rfl (fun _ _ => (HSub.refl _)) ?_
          refine RunA.passU rfl rfl rfl rfl (by decide) rfl rfl (fun _ _ => (HSub.refl _)) ?_
          refine RunA.passU rfl rfl rfl rfl (by decide) rfl rfl (fun _ _ => (HSub.refl _)) ?_
          refine RunA.passU rfl rfl rfl rfl (by decide) rfl rfl (fun _ _ => (HSub.refl _)) ?_
          refine RunA.pure rfl rfl rfl rfl rfl (fun _ => ARun.pickF rfl rfl) ?_
          refine RunA.nil ?_
          exact ⟨rfl, rfl, rfl, rfl, rfl, rfl, rfl, rfl, rfl, rfl, rfl, rfl, rfl, trivial⟩
        have h1 : x'.at_ < facts.length := by simpa using e3
        have h2 : x'.at_.toNat < facts.length := by omega
        have h3' : facts[x'.at_.toNat]? = some facts[x'.at_.toNat] := List.getElem?_eq_getElem h2
        have gF : rdc (facts.flatMap eFact) (x'.at_.toNat * 4) 4 = some (eFact facts[x'.at_.toNat]) := rdc_flatMap eFact_len h2
        generalize facts[x'.at_.toNat] = fa at *
        have hval : guardB l facts x' = provB l fa x'.size (decide (x'.op = 6)) := by
          unfold guardB
          rw [h3', e1, e2, eo]; simp
        have keyV : ∀ h1, Sp Try.prog 17 [.agg (eLay l), .agg (eFact fa), eI x'.size, eB (decide (x'.op = 6))] h1 (fun r h' => r = eB (guardB l facts x') ∧ h' = h1) := fun h1 => by
          rw [hval]; exact ProvesR_spec l fa x'.size _ h1 hm
        (repeat (first | refine AC.seq ?_ | refine AC.block ?_ | refine AC.skip ?_))
        refine AC.drawnH [0, 1, 2, 3, 4, 5, 6, 7, 8, 9, 10, 11, 12, 13, 14, 15, 16, 17, 18, 19, 20, 21, 22, 23, 24, 25, 26, 27, 28, 30] [3, 7, 12, 18, 21, 23, 25, 27] [0, 1, 2, 3, 4, 5, 6, 7, 8, 9, 10, 11, 12, 13, 14, 15, 16, 17, 18, 19, 20, 21, 22, 23, 24, 25, 26, 27, 28, 29, 30] mixed (by kernel_rfl) ?_
        refine RunA.pure rfl rfl rfl rfl rfl (fun _ => ARun.mvV (.inl rfl) rfl) ?_
        refine RunA.pure rfl rfl rfl rfl rfl (fun _ => ARun.mvV (.inl rfl) rfl) ?_
        refine RunA.pureG rfl rfl rfl rfl rfl rfl (by decide) rfl (fun _ => ARun.fieldAddrL rfl rfl) ?_
        refine RunA.calmG rfl rfl rfl rfl rfl rfl (by decide) rfl (HSub.refl _) (fun _ hsub => ARun.loadL rfl rfl (congrArg (fun v => some (eB v)) e1)) ?_
        refine RunA.pure rfl rfl rfl rfl rfl (fun _ => ARun.pickT rfl rfl) ?_
        refine RunA.pure rfl rfl rfl rfl rfl (fun _ => ARun.mvV (.inl rfl) rfl) ?_
        refine RunA.pureG rfl rfl rfl rfl rfl rfl (by decide) rfl (fun _ => ARun.fieldAddrL rfl rfl) ?_
        refine RunA.calmG rfl rfl rfl rfl rfl rfl (by decide) rfl (HSub.refl _) (fun _ hsub => ARun.loadL rfl rfl rfl) ?_
        refine RunA.pureG rfl rfl rfl rfl rfl rfl (by decide) rfl (fun _ => ARun.geqV rfl rfl rfl e2) ?_
        refine RunA.pure rfl rfl rfl rfl rfl (fun _ => ARun.pickT rfl rfl) ?_
        refine RunA.pure rfl rfl rfl rfl rfl (fun _ => ARun.mvV (.inl rfl) rfl) ?_
        refine RunA.pureG rfl rfl rfl rfl rfl rfl (by decide) rfl (fun _ => ARun.fieldAddrL rfl rfl) ?_
        refine RunA.calmG rfl rfl rfl rfl rfl rfl (by decide) rfl (HSub.refl _) (fun _ hsub => ARun.loadL rfl rfl rfl) ?_
        refine RunA.pureG rfl rfl rfl rfl rfl rfl (by decide) rfl (fun _ => ARun.mvL (.inl rfl) rfl) ?_
        refine RunA.pureG rfl rfl rfl rfl rfl rfl (by decide) rfl (fun _ => ARun.lenL rfl rfl) ?_
        refine RunA.pureG rfl rfl rfl rfl rfl rfl (by decide) rfl (fun _ => ARun.lssV rfl rfl rfl e3) ?_
        refine RunA.pure rfl rfl rfl rfl rfl (fun _ => ARun.pickT rfl rfl) ?_
        refine RunA.pure rfl rfl rfl rfl rfl (fun _ => ARun.mvV (.inl rfl) rfl) ?_
        refine RunA.calmG rfl rfl rfl rfl rfl rfl (by decide) rfl (HSub.refl _) (fun _ hsub => ARun.loadNL rfl rfl rfl) ?_
        refine RunA.pureG rfl rfl rfl rfl rfl rfl (by decide) rfl (fun _ => ARun.mvL (.inl rfl) rfl) ?_
        refine RunA.pureG rfl rfl rfl rfl rfl rfl (by decide) rfl (fun _ => ARun.fieldAddrL rfl rfl) ?_
        refine RunA.calmG rfl rfl rfl rfl rfl rfl (by decide) rfl (HSub.refl _) (fun _ hsub => ARun.loadL rfl rfl rfl) ?_
        refine RunA.pureG rfl rfl rfl rfl rfl rfl (by decide) rfl (fun _ => ARun.indexAddrL rfl rfl rfl (by omega) (by omega)) ?_
        refine RunA.calmG rfl rfl rfl rfl rfl rfl (by decide) rfl (HSub.refl _) (fun _ hsub => ARun.loadNL rfl rfl gF) ?_
        refine RunA.pureG rfl rfl rfl rfl rfl rfl (by decide) rfl (fun _ => ARun.fieldAddrL rfl rfl) ?_
        refine RunA.calmG rfl rfl rfl rfl rfl rfl (by decide) rfl (HSub.refl _) (fun _ hsub => ARun.loadL rfl rfl rfl) ?_
        refine RunA.pureG rfl rfl rfl rfl rfl rfl (by decide) rfl (fun _ => ARun.fieldAddrL rfl rfl) ?_
        refine RunA.calmG rfl rfl rfl rfl rfl rfl (by decide) rfl (HSub.refl _) (fun _ hsub => ARun.loadL rfl rfl rfl) ?_
        refine RunA.pureG rfl rfl rfl rfl rfl rfl (by decide) rfl (fun _ => ARun.eql rfl rfl rfl) ?_
        refine RunA.opG rfl rfl rfl rfl rfl (by decide) rfl ?_
        refine AOp.call_ rfl rfl ((keyV _).mono ?_)
        rintro _ _ ⟨rfl, rfl⟩; refine ⟨fun _ q => q, ?_⟩
        refine RunA.pure rfl rfl rfl rfl rfl (fun _ => ARun.pickT rfl rfl) ?_
        refine RunA.nil ?_
        exact ⟨rfl, rfl, rfl, rfl, rfl, rfl, rfl, rfl, rfl, rfl, rfl, rfl, rfl, trivial⟩
      rintro _ τ _ ⟨rfl, rfl, hs⟩
      obtain ⟨t5, rfl⟩ := hs.open_
      (repeat (first | refine AC.seq ?_ | refine AC.block ?_ | refine AC.skip ?_)); refine AC.cond rfl (fun hc => ?_) (fun hc => ?_)
      · have hgt : guardB l facts x' = true := hc
        have hst := hsetN false (hyes hgt)
        rw [hgt] at hgn
        (repeat (first | refine AC.seq ?_ | refine AC.block ?_ | refine AC.skip ?_))
        refine AC.region ?_
        refine AOps.step rfl rfl ?_
        refine AOp.of_run (ARun.fieldAddr rfl rfl) ?_
        refine AOps.step rfl rfl (AOp.of_run (ARun.load rfl rfl hB12 rfl) ?_)
        refine AOps.step rfl rfl ?_
        refine AOp.of_run (ARun.mvV (.inl rfl) rfl) ?_
        refine AOps.step rfl rfl ?_
        refine AOp.of_run (ARun.indexAddr rfl rfl rfl (by omega) (by omega)) ?_
        refine AOps.step rfl rfl ?_
        refine AOp.of_run (ARun.fieldAddr rfl rfl) ?_
        refine AOps.step rfl rfl (AOp.store1 rfl rfl hBN rfl (by rw [hflN, hNl]; show 0 + (k : Int).toNat * 12 + 9 < _; omega) ?_)
        refine AOps.nil ?_
        rw [hset_hset]
        (repeat (first | refine AC.seq ?_ | refine AC.block ?_ | refine AC.skip ?_))
        refine AC.region ?_
        refine AOps.step rfl rfl ?_
        refine AOp.of_run (ARun.mvV (.inl rfl) rfl) ?_
        refine AOps.step rfl rfl ?_
        refine AOp.of_run (ARun.add rfl rfl rfl) ?_
        refine AOps.step rfl rfl ?_
        refine AOp.of_run (ARun.mvV (.inr rfl) rfl) ?_
        refine AOps.nil ?_
        (repeat (first | refine AC.seq ?_ | refine AC.block ?_ | refine AC.skip ?_ | refine AC.exit ?_))
        (repeat (first | refine AC.seq ?_ | refine AC.block ?_ | refine AC.skip ?_))
        refine AC.region ?_
        refine AOps.step rfl rfl ?_
        refine AOp.of_run (ARun.mvV (.inl rfl) rfl) ?_
        refine AOps.step rfl rfl ?_
        refine AOp.of_run (ARun.add rfl rfl rfl) ?_
        refine AOps.step rfl rfl ?_
        refine AOp.of_run (ARun.mvV (.inr rfl) rfl) ?_
        refine AOps.nil ?_
        refine ⟨_, by omega, k + 1, hlt3, rfl, ⟨rfl, rfl, rfl, rfl, rfl, eI_wrap (by omega) (by omega) (by simp at hgn; omega), rfl, rfl, eI_wrap (by omega) (by omega) (by omega), trivial⟩, ?_⟩
        have := hclose _ (mixL_len (freeN l facts) p.nodes (k + 1))
        rw [← hst] at this ⊢
        exact this
      · have hg0 : guardB l facts x' = false := hc
        rw [hno hg0] at hNsame
        (repeat (first | refine AC.seq ?_ | refine AC.block ?_ | refine AC.skip ?_ | refine AC.exit ?_))
        (repeat (first | refine AC.seq ?_ | refine AC.block ?_ | refine AC.skip ?_))
        refine AC.region ?_
        refine AOps.step rfl rfl ?_
        refine AOp.of_run (ARun.mvV (.inl rfl) rfl) ?_
        refine AOps.step rfl rfl ?_
        refine AOp.of_run (ARun.add rfl rfl rfl) ?_
        refine AOps.step rfl rfl ?_
        refine AOp.of_run (ARun.mvV (.inr rfl) rfl) ?_
        refine AOps.nil ?_
        refine ⟨_, by omega, k + 1, hlt3, rfl, ⟨rfl, rfl, rfl, rfl, rfl, by rw [← hkeep hg0]; rfl, rfl, rfl, eI_wrap (by omega) (by omega) (by omega), trivial⟩, ?_⟩
        rw [← hNsame rfl]
        exact hclose _ (mixL_len (freeN l facts) p.nodes k)
    have hge : k = p.nodes.length := by simp at hc; omega
    subst hge
    rw [mixL_all] at hoK
    rw [take_all (Nat.le_refl _)]
    (repeat (first | refine AC.seq ?_ | refine AC.block ?_ | refine AC.skip ?_ | refine AC.exit ?_))
    refine AC.le (hoK.freezeIn (g := b12) (i := 2) gQ rfl) ?_
    have hfrz : (((ePart p).set 2 (AVal.v (.slice an p.nodes.length cn))).set 2 (.ls p.nodes.length ((p.nodes.map (freeN l facts)).flatMap eNode))) = ePart (freeP l facts p) := by
      rw [show p.nodes.length = (p.nodes.map (freeN l facts)).length by simp]; rfl
    rw [hfrz, hHQ, hset_hset]
    have hoP := ho.new (.cells (ePart (freeP l facts p)) 60 10) hb12
    have hbase := ho.base hb12
    have hb129 : b12 ≠ b9 := by rintro rfl; rw [gB] at hbase; cases hbase
    have k12 : Ab.hset h3 b12 (some (.cells (ePart (freeP l facts p)) 60 10)) b12 = some (.cells (ePart (freeP l facts p)) 60 10) := hset_same _ _ _
    obtain ⟨ax, cx, rfl, hcx⟩ := ho.isSlice
    (repeat (first | refine AC.seq ?_ | refine AC.block ?_ | refine AC.skip ?_))
    refine AC.region ?_
    refine AOps.step rfl rfl ?_
    refine AOp.of_run (ARun.fieldAddr rfl rfl) ?_
    refine AOps.step rfl rfl (AOp.of_run (ARun.load rfl rfl (hset_skip hb129.symm (ho.get (gB _))) rfl) ?_)
    refine AOps.step rfl rfl (AOp.of_run (ARun.loadN rfl rfl k12 rfl) ?_)
    refine AOps.step rfl rfl ?_
    refine AOp.buildSlice rfl ?_
    refine AOps.step rfl rfl (AOp.append rfl hoP (RdSl.ls (by rfl)) (by unfold maxLen; omega) (by omega) (fun xp h7 ho7 => ?_) (by rfl))
    obtain ⟨ap, cp, rfl, hcp⟩ := ho7.isSlice
    have gB7 : h7 b9 = some (.cells [.v (.slice ax i cx), eI f.values] 29 2) := ho7.get (hset_skip hb129.symm (gB _))
    refine AOps.step rfl rfl ?_
    refine AOp.of_run (ARun.fieldAddr rfl rfl) ?_
    refine AOps.step rfl rfl (AOp.store1 rfl rfl gB7 rfl (by show 0 < 2; decide) ?_)
    refine AOps.nil ?_
    have ho8 := ho7.upd (.cells [.v (.slice ap (i + 1) cp), eI f.values] 29 2) (hset_skip hb129.symm (gB _))
    rw [hset_comm _ _ _ hb129, gput] at ho8
    have hbase2 : HB (.v (.slice ap (i + 1) cp)) b12 = none := by
      rw [hHB, hset_ne _ _ hb129]
      have := hbase
      rw [hHB, hset_ne _ _ hb129] at this; exact this
    obtain ⟨ho9, hsub9⟩ := ho8.drop hbase2
    (repeat (first | refine AC.seq ?_ | refine AC.block ?_ | refine AC.skip ?_ | refine AC.exit ?_))
    refine AC.le (Le.sub hsub9) ?_
    (repeat (first | refine AC.seq ?_ | refine AC.block ?_ | refine AC.skip ?_))
    refine AC.region ?_
    refine AOps.step rfl rfl ?_
    refine AOp.of_run (ARun.mvV (.inl rfl) rfl) ?_
    refine AOps.step rfl rfl ?_
    refine AOp.of_run (ARun.add rfl rfl rfl) ?_
    refine AOps.step rfl rfl ?_
    refine AOp.of_run (ARun.mvV (.inr rfl) rfl) ?_
    refine AOps.nil ?_
    have hgl2 := goneN_le l facts p.nodes
    refine ⟨_, by omega, i + 1, .v (.slice ap (i + 1) cp), hlt, rfl, ⟨rfl, rfl, rfl, rfl, rfl, by rw [hgone]; rfl, eI_wrap (by omega) (by omega) (by omega), trivial⟩, ?_⟩
    rw [htake, List.flatMap_append]
    have : ([freeP l facts p].flatMap ePart) = ePart (freeP l facts p) := by simp
    rw [this]
    exact ho9
  have hge : i = f.parts.length := by simp at hc; omega
  subst hge
  rw [take_all (Nat.le_refl _)] at ho ⊢
  obtain ⟨ax, cx, rfl, hcx⟩ := ho.isSlice
  (repeat (first | refine AC.seq ?_ | refine AC.block ?_ | refine AC.skip ?_ | refine AC.exit ?_))
  (repeat (first | refine AC.seq ?_ | refine AC.block ?_ | refine AC.skip ?_))
  refine AC.region ?_
  refine AOps.step rfl rfl (AOp.of_run (ARun.loadN rfl rfl (ho.get (gB _)) rfl) ?_)
  refine AOps.step rfl rfl ?_
  refine AOp.of_run (ARun.mvV (.inl rfl) rfl) ?_
  refine AOps.step rfl rfl (AOp.store rfl rfl (ho.get (g6 _)) rfl ?_)
  refine AOps.step rfl rfl ?_
  refine AOp.of_run (ARun.mvV (.inr rfl) rfl) ?_
  refine AOps.step rfl rfl ?_
  refine AOp.of_run (ARun.mvV (.inr rfl) rfl) ?_
  refine AOps.nil ?_
  have hoF := ho.upd (.cells [.v (.slice ax f.parts.length cx), eI f.values] 29 2) (g6 _)
  change thenA _ _ Exit.normal _ (Ab.hset h3 b6 (some (.cells [.v (.slice ax f.parts.length cx), eI f.values] 29 2)))
  have hbs : Ab.hset (HB (.v (.slice ax f.parts.length cx))) b6 (some (.cells [.v (.slice ax f.parts.length cx), eI f.values] 29 2)) = Ab.hset (Ab.hset h b6 (some (.cells [.v (.slice ax f.parts.length cx), eI f.values] 29 2))) b9 (some (.cells [.v (.slice ax f.parts.length cx), eI f.values] 29 2)) := by
    rw [hHB, h6e, hset_comm _ _ _ hb69.symm, hset_hset]
  rw [hbs] at hoF
  have hb9'' : Ab.hset h b6 (some (.cells ([AVal.v (.slice ax f.parts.length cx), eI f.values].set 0 (.ls f.parts.length ((f.parts.map (freeP l facts)).flatMap ePart))) 29 2)) b9 = none := by
    rw [hset_ne _ _ hb69.symm]
    have := hb9'
    rw [h6e, hset_ne _ _ hb69.symm] at this; exact this
  refine AC.le (hoF.freezeIn (g := b6) (i := 0) (hset_skip hb69 (hset_same _ _ _)) rfl) ?_
  rw [hset_comm _ _ _ hb69.symm, hset_hset]
  refine AC.le (Le.sub (HSub.add _ hb9'')) ?_
  refine AC.ret (ARes.le (Le.freezeVar (d := 6) rfl (hset_same _ _ _)) (ARes.three rfl (RV.cellNL rfl rfl) RV.tmp RV.tmp ⟨.inl ⟨hchk, ?_⟩, by rw [hset_hset, hset_id hb6]⟩))
  show AVal.tup [.agg [.ls f.parts.length ((f.parts.map (freeP l facts)).flatMap ePart), eI f.values], _, _] = _
  rw [show f.parts.length = (f.parts.map (freeP l facts)).length by simp]; rfl
end Go.Proofs.Ytilanageangegaa

/- The layer's rules: forks within forks. No statement is proved here. -/
set_option linter.unusedVariables false
set_option linter.unusedSimpArgs false
namespace Go.Ab

section
variable {P : Program} {n : Nat} {ops : Array Oper} {CC C : List Nat} {hs : AHeap} {Q : Env → AHeap → Prop}
/-- The orders that are walked: one; or one, and then whichever of two comes first. -/
inductive Tr where
  | leaf (σ : List Nat)
  | fork (σ : List Nat) (i j : Nat) (x y : Tr)
def Tr.len : Tr → Nat
  | .leaf σ => σ.length
  | .fork σ _ _ x y => σ.length + 1 + max x.len y.len
def RunT (P : Program) (n : Nat) (ops : Array Oper) (CC C : List Nat) (hs : AHeap) (Q : Env → AHeap → Prop) : Tr → Env → AHeap → Prop
  | .leaf σ, τ, h => RunA P n ops CC C hs Q σ τ h
  | .fork σ i j x y, τ, h => RunA P n ops CC C hs (fun τ h => (∃ o, ops[i]? = some o ∧ opA P n ops o (fun τ' h' => (late ops C i = false → HSub hs h → HSub hs h') ∧ RunT P n ops CC C hs Q x τ' h') τ h) ∧
      ∃ o, ops[j]? = some o ∧ opA P n ops o (fun τ' h' => (late ops C j = false → HSub hs h → HSub hs h') ∧ RunT P n ops CC C hs Q y τ' h') τ h) σ τ h
def listAll (listed : Array Bool) : List Nat → Array Bool
  | [] => listed
  | i :: σ => listAll (listed.setIfInBounds i true) σ
/-- The order σ, up to where something else goes on. -/
def chkP_ (ops : Array Oper) (CC : List Nat) : List Nat → Array Bool → Bool
  | [], _ => true
  | i :: σ, listed => (if CC.contains i then (Region.ready .any ops listed).contains i && Region.free .any ops listed i else Region.ready .any ops listed == [i]) && chkP_ ops CC σ (listed.setIfInBounds i true)
def chkT (ops : Array Oper) (CC : List Nat) : Tr → Array Bool → Bool
  | .leaf σ, listed => chkA ops CC σ listed
  | .fork σ i j x y, listed => chkP_ ops CC σ listed && ((Region.ready .any ops (listAll listed σ) == [i, j]) && (chkT ops CC x ((listAll listed σ).setIfInBounds i true) && chkT ops CC y ((listAll listed σ).setIfInBounds j true)))
theorem RunA.then_ (hsel : Region.noSelect ops = true) {K : Env → AHeap → Prop} {g : Nat} : ∀ (σ : List Nat) (listed : Array Bool) (τ : Env) (h : AHeap), chkP_ ops CC σ listed = true → (∀ τ h, K τ h → AnyA P n ops C hs Q g (listAll listed σ) τ h) →
    RunA P n ops CC C hs K σ τ h → AnyA P n ops C hs Q (σ.length + g) listed τ h
  | [], listed, τ, h, _, hk, x => by
    rw [show ([] : List Nat).length + g = g from Nat.zero_add g]
    exact hk τ h x
  | i :: σ, listed, τ, h, hc, hk, x => by
    rw [show (i :: σ).length + g = (σ.length + g) + 1 by rw [List.length_cons]; omega]
    simp only [chkP_, Bool.and_eq_true] at hc
    obtain ⟨hc1, hc2⟩ := hc
    obtain ⟨o, ho, ⟨hC, y, G, hcalm, hh, x⟩ | ⟨hC, x⟩⟩ := x
    · rw [if_pos hC] at hc1
      simp only [Bool.and_eq_true] at hc1
      exact AnyA.first ho (hh.elim (fun ⟨a, _, c⟩ => .inl ⟨by simpa using a, c⟩) fun ⟨_, c⟩ => .inr c) (Region.noSelect_spec hsel) _ listed τ h (fun j oj hj hne hun hno => Region.free_spec ho hc1.2 j oj hj hne hun hno) (by simpa using hc1.1) hcalm (fun a => hh.elim (fun ⟨_, b, _⟩ => b) fun ⟨b, _⟩ => absurd (b.symm.trans (List.contains_iff_mem.2 a)) (by simp)) (RunA.then_ hsel σ _ _ _ hc2 hk x)
    · rw [if_neg (by rw [hC]; exact Bool.false_ne_true)] at hc1
      have hr : Region.ready .any ops listed = [i] := by simpa using hc1
      exact AnyA.only i hr ho (opA.mono (fun τ' h' q => ⟨q.1, RunA.then_ hsel σ _ _ _ hc2 hk q.2⟩) x)
theorem AnyA.more {f : Nat} : ∀ {g : Nat} {listed : Array Bool} {τ : Env} {h : AHeap}, g ≤ f → AnyA P n ops C hs Q g listed τ h → AnyA P n ops C hs Q f listed τ h := by
  induction f with
  | zero => intro g listed τ h hg x; obtain rfl : g = 0 := by omega
            exact x
  | succ f ih =>
    intro g listed τ h hg x
    cases g with
    | zero => exact ⟨fun _ => x.2, fun i hi => by rw [x.1] at hi; cases hi⟩
    | succ g => exact ⟨x.1, fun i hi o ho => opA.mono (fun τ' h' q => ⟨q.1, ih (by omega) q.2⟩) (x.2 i hi o ho)⟩
theorem RunT.any (hsel : Region.noSelect ops = true) : ∀ (t : Tr) (listed : Array Bool) (τ : Env) (h : AHeap), chkT ops CC t listed = true → RunT P n ops CC C hs Q t τ h → AnyA P n ops C hs Q t.len listed τ h
  | .leaf σ, listed, τ, h, hc, x => RunA.any hsel σ _ listed τ h (Nat.le_refl _) hc x
  | .fork σ i j s t, listed, τ, h, hc, x => by
    simp only [chkT, Bool.and_eq_true, beq_iff_eq] at hc
    obtain ⟨h1, h2, h3, h4⟩ := hc
    have e : (Tr.fork σ i j s t).len = σ.length + (1 + max s.len t.len) := by simp only [Tr.len]; omega
    rw [e]
    refine RunA.then_ hsel σ listed τ h h1 (fun τ h q => ?_) x
    rw [Nat.add_comm 1]
    refine AnyA.all [i, j] h2 (by simp) fun k hk o ho => ?_
    obtain ⟨⟨o1, ho1, q1⟩, ⟨o2, ho2, q2⟩⟩ := q
    rcases List.mem_cons.1 hk with e | e
    · subst e
      rw [ho1] at ho
      injection ho with ho
      subst ho
      exact opA.mono (fun τ' h' q => ⟨q.1, (RunT.any hsel s _ _ _ h3 q.2).more (Nat.le_max_left _ _)⟩) q1
    · have : k = j := by simpa using e
      subst this
      rw [ho2] at ho
      injection ho with ho
      subst ho
      exact opA.mono (fun τ' h' q => ⟨q.1, (RunT.any hsel t _ _ _ h4 q.2).more (Nat.le_max_right _ _)⟩) q2
theorem AC.tree {id : Nat} {Q : Exit → Env → AHeap → Prop} {τ : Env} {h : AHeap} (CC C : List Nat) (t : Tr) (hm : P.follows .mixedOrders = true)
    (hchk : (Region.noSelect ops && (decide (t.len ≤ ops.size) && chkT ops CC t (Array.replicate ops.size false)) : Bool) = true)
    (x : RunT P n ops CC C h (Q .normal) t τ h) : AC P n (.region id ops true) Q τ h := by
  simp only [Bool.and_eq_true, decide_eq_true_eq] at hchk
  exact AC.draw hm C h ((RunT.any hchk.1 t _ _ _ hchk.2.2 x).more hchk.2.1)
theorem RunT.leaf {σ : List Nat} {τ : Env} {h : AHeap} (x : RunA P n ops CC C hs Q σ τ h) : RunT P n ops CC C hs Q (.leaf σ) τ h := x
theorem RunT.fork {σ : List Nat} {i j : Nat} {s t : Tr} {τ : Env} {h : AHeap} (x : RunA P n ops CC C hs (fun τ h => (∃ o, ops[i]? = some o ∧ opA P n ops o (fun τ' h' => (late ops C i = false → HSub hs h → HSub hs h') ∧ RunT P n ops CC C hs Q s τ' h') τ h) ∧
      ∃ o, ops[j]? = some o ∧ opA P n ops o (fun τ' h' => (late ops C j = false → HSub hs h → HSub hs h') ∧ RunT P n ops CC C hs Q t τ' h') τ h) σ τ h) : RunT P n ops CC C hs Q (.fork σ i j s t) τ h := x
end
end Go.Ab
namespace Go.Ab
section
variable {P : Program} {n : Nat} {ops : Array Oper} {CC C : List Nat} {hs : AHeap} {Q : Env → AHeap → Prop} {i : Nat} {o : Oper} {τ : Env} {h : AHeap} {t : Tr}
theorem RunT.head (ho : ops[i]? = some o) (hd : dstOK n o.dst = true) (hg : o.guard = none) (k : AOp P n o τ h fun x h' => (late ops C i = false → HSub hs h → HSub hs h') ∧ RunT P n ops CC C hs Q t (updO τ o.dst x) h') :
    ∃ o, ops[i]? = some o ∧ opA P n ops o (fun τ' h' => (late ops C i = false → HSub hs h → HSub hs h') ∧ RunT P n ops CC C hs Q t τ' h') τ h := ⟨o, ho, hd, .inl ⟨.free hg, k⟩⟩
theorem RunT.headG {j tt : Nat} {b : Bool} (ho : ops[i]? = some o) (hd : dstOK n o.dst = true) (hg : o.guard = some (j, b)) (hj : (ops[j]?).bind (·.dst) = some tt) (ht : tt < n) (hv : τ tt = .v (.bool b)) (k : AOp P n o τ h fun x h' => (late ops C i = false → HSub hs h → HSub hs h') ∧ RunT P n ops CC C hs Q t (updO τ o.dst x) h') :
    ∃ o, ops[i]? = some o ∧ opA P n ops o (fun τ' h' => (late ops C i = false → HSub hs h → HSub hs h') ∧ RunT P n ops CC C hs Q t τ' h') τ h := ⟨o, ho, hd, .inl ⟨.yes j tt b hg hj ht hv, k⟩⟩
end
end Go.Ab

/- Walk of clevislaw20.ChecksFree. -/
set_option linter.unusedVariables false
set_option linter.unusedSimpArgs false
namespace Go.Ab
theorem ARun.eqlBV {P : Program} {n : Nat} {o : Oper} {τ : Env} {h : AHeap} {t t2 : TypeId} {x y : Operand} {p q v : Bool} (ht : P.underlying t = some .bool) (ho : o.op = .binOp .eql t x y t2) (hx : aev τ x = .v (.bool p)) (hy : aev τ y = .v (.bool q)) (hv : (p == q) = v) : ARun P n o τ h (.v (.bool v)) := hv ▸ ARun.eqlB ht ho hx hy
end Go.Ab
namespace Go.Proofs.Ytilanageangegaa
open Go.Ab

/-- What layer 20 answers is one thing, and it is like itself. -/
theorem free_one (l : DLay) (f : DIr) (facts : List DFact) (z : Sz f) : ∃ (x0 : AVal) (v0 n e : Int), cellB x0 = true ∧ (∀ r, FreeR l f facts r → r = .tup [.agg [x0, eI v0], eI n, eI e]) ∧ ∀ h1, Sp Try.prog 13 [.agg [x0, eI v0], .agg [x0, eI v0]] h1 (fun r h' => r = eB true ∧ h' = h1) := by
  rcases Classical.em (chkP f) with hc | hc
  · refine ⟨.ls (freeF l facts f).parts.length ((freeF l facts f).parts.flatMap ePart), (freeF l facts f).values, goneP l facts f.parts, 0, rfl, fun r hr => ?_, fun h1 => ?_⟩
    · rcases hr with ⟨_, e⟩ | ⟨e, _⟩
      · exact e
      · exact absurd hc e
    · have := SameR_spec (freeF l facts f) (freeF l facts f) h1 (freeF_sz l facts z)
      rw [decide_eq_true (Eq.refl (freeF l facts f))] at this
      exact this
  · refine ⟨nilS, 0, 0, 160, rfl, fun r hr => ?_, fun h1 => ?_⟩
    · rcases hr with ⟨e, _⟩ | ⟨_, e⟩
      · exact absurd e hc
      · exact e
    · have := SameR_spec nofI nofI h1 sz_nof
      rw [decide_eq_true (Eq.refl nofI)] at this
      exact Sp.args (args' := [.agg (eIr nofI), .agg (eIr nofI)]) this (by rfl) (fun w i h1 h2 v r => by
        match i, h1, h2 with
        | 0, _, _ => exact ir_nof r
        | 1, _, _ => exact ir_nof r)

set_option maxHeartbeats 1000000 in
set_option maxRecDepth 10000 in
theorem ChecksFree_spec (l : DLay) (f : DIr) (facts : List DFact) (size : Int) (h : AHeap) (zp : ∀ p ∈ f.parts, SzP p) (hm : l.maps.length ≤ 1000000) (hfa : facts.length ≤ 2000000) :
    Sp Try.prog 4 [.agg (eLay l), .agg (eIr f), eFacts facts, eI size] h (fun r h' => r = eB true ∧ h' = h) := by
  refine Sp.of Try.func4 rfl rfl (by show 4 ≤ 81; decide) ?_
  (repeat (first | refine AC.seq ?_ | refine AC.block ?_ | refine AC.skip ?_))
  refine AC.region ?_
  refine AOps.step rfl rfl ?_
  refine AOp.boxL rfl rfl ?_
  refine AOps.step rfl rfl ?_
  refine AOp.boxL rfl rfl ?_
  refine AOps.step rfl rfl ?_
  refine AOp.of_run (ARun.mvV (.inr rfl) rfl) ?_
  refine AOps.nil ?_
  (repeat (first | refine AC.seq ?_ | refine AC.block ?_ | refine AC.skip ?_))
  refine AC.region ?_
  refine AOps.step rfl rfl ?_
  refine AOp.of_run (ARun.loadNL rfl rfl rfl) ?_
  refine AOps.step rfl rfl (AOp.call_ rfl rfl ((small_spec f _).mono ?_))
  rintro _ _ ⟨rfl, rfl⟩
  cases hsm : smallB f
  · refine AOps.step rfl rfl ?_
    refine AOp.of_run (ARun.not rfl rfl) ?_
    refine AOps.nil ?_
    (repeat (first | refine AC.seq ?_ | refine AC.block ?_ | refine AC.skip ?_)); refine AC.cond rfl (fun hc => ?_) (fun hc => ?_)
    case refine_2 => cases hc
    (repeat (first | refine AC.seq ?_ | refine AC.block ?_ | refine AC.skip ?_ | refine AC.exit ?_))
    (repeat (first | refine AC.seq ?_ | refine AC.block ?_ | refine AC.skip ?_))
    refine AC.region ?_
    refine AOps.step rfl rfl (AOp.call_ rfl rfl ((heads20_spec _).mono ?_))
    rintro _ _ ⟨rfl, rfl⟩
    refine AOps.step rfl rfl ?_
    refine AOp.of_run (ARun.mvV (.inr rfl) rfl) ?_
    refine AOps.nil ?_
    refine AC.ret (ARes.one rfl (RV.V rfl) ⟨rfl, rfl⟩)
  have z : Sz f := by
    unfold smallB at hsm
    simp only [Bool.and_eq_true, decide_eq_true_eq] at hsm
    exact ⟨by omega, zp⟩
  refine AOps.step rfl rfl ?_
  refine AOp.of_run (ARun.not rfl rfl) ?_
  refine AOps.nil ?_
  (repeat (first | refine AC.seq ?_ | refine AC.block ?_ | refine AC.skip ?_)); refine AC.cond rfl (fun hc => ?_) (fun hc => ?_)
  · cases hc
  obtain ⟨x0, v0, n, e, hx0, hone, hsame⟩ := free_one l f facts z
  have hF : [x0, eI v0].all cellB = true := by show (cellB x0 && true) = true; rw [hx0]; rfl
  (repeat (first | refine AC.seq ?_ | refine AC.block ?_ | refine AC.skip ?_ | refine AC.exit ?_))
  (repeat (first | refine AC.seq ?_ | refine AC.block ?_ | refine AC.skip ?_))
  refine AC.region ?_
  refine AOps.step rfl rfl ?_
  refine AOp.of_run (ARun.loadNL rfl rfl rfl) ?_
  refine AOps.step rfl rfl ?_
  refine AOp.of_run (ARun.loadNL rfl rfl rfl) ?_
  refine AOps.step rfl rfl ?_
  refine AOp.of_run (ARun.mvL (.inl rfl) rfl) ?_
  refine AOps.step rfl rfl (AOp.call_ rfl rfl ((Free_spec l f facts _ z hm hfa).mono ?_))
  rintro _ _ ⟨hr, rfl⟩
  obtain rfl := hone _ hr
  clear hr
  refine AOps.step rfl rfl ?_
  refine AOp.of_run (ARun.mvT (.inl rfl) rfl) ?_
  refine AOps.step rfl rfl ?_
  refine AOp.of_run (ARun.extract rfl rfl rfl) ?_
  refine AOps.step rfl rfl ?_
  refine AOp.of_run (ARun.extract rfl rfl rfl) ?_
  refine AOps.step rfl rfl ?_
  refine AOp.of_run (ARun.extract rfl rfl rfl) ?_
  refine AOps.step rfl rfl (AOp.alloc rfl (fun b9 hb9 => ?_))
  refine AOps.step rfl rfl (AOp.store (hcell := hF) rfl rfl (hset_same _ _ _) rfl ?_)
  refine AOps.step rfl rfl ?_
  refine AOp.of_run (ARun.mvV (.inr rfl) rfl) ?_
  refine AOps.step rfl rfl ?_
  refine AOp.of_run (ARun.mvV (.inr rfl) rfl) ?_
  refine AOps.nil ?_
  refine AC.le (Le.freezeNew (d := 9) hb9 rfl) ?_
  (repeat (first | refine AC.seq ?_ | refine AC.block ?_ | refine AC.skip ?_))
  refine AC.region ?_
  refine AOps.step rfl rfl ?_
  refine AOp.of_run (ARun.loadNL rfl rfl rfl) ?_
  refine AOps.step rfl rfl ?_
  refine AOp.of_run (ARun.loadNL rfl rfl rfl) ?_
  refine AOps.step rfl rfl ?_
  refine AOp.of_run (ARun.mvL (.inl rfl) rfl) ?_
  refine AOps.step rfl rfl (AOp.call_ rfl rfl ((FreeR_spec l f facts _ z hm hfa).mono ?_))
  rintro _ _ ⟨hr, rfl⟩
  obtain rfl := hone _ hr
  clear hr
  refine AOps.step rfl rfl ?_
  refine AOp.of_run (ARun.mvT (.inl rfl) rfl) ?_
  refine AOps.step rfl rfl ?_
  refine AOp.of_run (ARun.extract rfl rfl rfl) ?_
  refine AOps.step rfl rfl ?_
  refine AOp.of_run (ARun.extract rfl rfl rfl) ?_
  refine AOps.step rfl rfl ?_
  refine AOp.of_run (ARun.extract rfl rfl rfl) ?_
  refine AOps.step rfl rfl (AOp.alloc rfl (fun b12 hb12 => ?_))
  refine AOps.step rfl rfl (AOp.store (hcell := hF) rfl rfl (hset_same _ _ _) rfl ?_)
  refine AOps.step rfl rfl ?_
  refine AOp.of_run (ARun.mvV (.inr rfl) rfl) ?_
  refine AOps.step rfl rfl ?_
  refine AOp.of_run (ARun.mvV (.inr rfl) rfl) ?_
  refine AOps.nil ?_
  refine AC.le (Le.freezeNew (d := 12) hb12 rfl) ?_
  rename_i h
  (repeat (first | refine AC.seq ?_ | refine AC.block ?_ | refine AC.skip ?_))
  refine AC.region ?_
  refine AOps.step rfl rfl ?_
  refine AOp.of_run (ARun.build rfl) ?_
  refine AOps.step rfl rfl (AOp.alloc rfl (fun b15 hb15 => ?_))
  refine AOps.step rfl rfl (AOp.store rfl rfl (hset_same _ _ _) rfl ?_)
  refine AOps.nil ?_
  obtain ⟨x, hx⟩ : ∃ x : DFact, x = facts.headD ⟨false, 0, 0, 0⟩ := ⟨_, rfl⟩
  (repeat (first | refine AC.seq ?_ | refine AC.block ?_ | refine AC.skip ?_))
  refine AC.region ?_
  refine AOps.step rfl rfl ?_
  refine AOp.of_run (ARun.mvL (.inl rfl) rfl) ?_
  refine AOps.step rfl rfl ?_
  refine AOp.of_run (ARun.lenL rfl rfl) ?_
  refine AOps.step rfl rfl ?_
  refine AOp.of_run (ARun.gtr rfl rfl rfl) ?_
  refine AOps.nil ?_
  (repeat (first | refine AC.seq ?_ | refine AC.block ?_ | refine AC.skip ?_ | refine AC.exit ?_))
  refine AC.mono (Q := fun ex τ h2 => ex = .normal ∧ h2 = hset h b15 (some (.cells (eFact x) 42 4)) ∧ Slots τ [(3, eI size), (4, .lp (eLay l) 0), (9, .lp [x0, eI v0] 0), (10, eI n), (11, eI e), (12, .lp [x0, eI v0] 0), (13, eI n), (14, eI e), (15, .v (ptr b15))]) ?_ ?_
  · (repeat (first | refine AC.seq ?_ | refine AC.block ?_ | refine AC.skip ?_)); refine AC.cond rfl (fun hc => ?_) (fun hc => ?_)
    · rcases facts with _ | ⟨f0, fs⟩
      · simp at hc
      have g0 : rdc ((f0 :: fs).flatMap eFact) ((0 : Int).toNat * 4) 4 = some (eFact f0) := rdc_flatMap (l := f0 :: fs) (i := 0) eFact_len (by simp)
      have hx0 : x = f0 := hx
      subst hx0
      (repeat (first | refine AC.seq ?_ | refine AC.block ?_ | refine AC.skip ?_))
      refine AC.region ?_
      refine AOps.step rfl rfl ?_
      refine AOp.of_run (ARun.mvL (.inl rfl) rfl) ?_
      refine AOps.step rfl rfl (AOp.of_run (ARun.indexAddrL rfl rfl rfl (by omega) (by simp)) ?_)
      refine AOps.step rfl rfl (AOp.of_run (ARun.loadNL rfl rfl g0) ?_)
      refine AOps.step rfl rfl (AOp.store rfl rfl (hset_same _ _ _) rfl ?_)
      refine AOps.nil ?_
      exact ⟨rfl, by rw [hset_hset, hset_hset]; rfl, rfl, rfl, rfl, rfl, rfl, rfl, rfl, rfl, rfl, trivial⟩
    · rcases facts with _ | ⟨f0, fs⟩
      · have hx0 : x = ⟨false, 0, 0, 0⟩ := hx
        subst hx0
        (repeat (first | refine AC.seq ?_ | refine AC.block ?_ | refine AC.skip ?_ | refine AC.exit ?_))
        exact ⟨rfl, by rw [hset_hset]; rfl, rfl, rfl, rfl, rfl, rfl, rfl, rfl, rfl, rfl, trivial⟩
      · simp at hc
  rintro _ τ _ ⟨rfl, rfl, hs⟩
  obtain ⟨t0, rfl⟩ := hs.open_
  refine AC.le (Le.freezeVar (d := 15) rfl (hset_same _ _ _)) ?_
  rw [hset_hset, hset_id hb15]
  (repeat (first | refine AC.seq ?_ | refine AC.block ?_ | refine AC.skip ?_))
  refine AC.drawnH [0, 1, 3, 4, 5, 6, 7, 8, 9, 10, 11, 12, 13, 14, 15, 16, 18, 19, 20, 22, 23, 24, 25, 26, 27, 29, 30, 31, 33, 34, 35, 37, 38] [0, 1, 14, 15, 18, 19, 25, 26, 29, 30] [0, 1, 2, 3, 4, 5, 6, 7, 8, 9, 10, 11, 12, 13, 14, 15, 16, 18, 19, 20, 17, 21, 22, 23, 24, 25, 26, 27, 29, 30, 31, 28, 32, 33, 34, 35, 36, 37, 38] mixed (by kernel_rfl) ?_
  refine RunA.calm rfl rfl rfl rfl rfl (HSub.refl _) (fun _ hsub => ARun.loadNL rfl rfl rfl) ?_
  refine RunA.calm rfl rfl rfl rfl rfl (HSub.refl _) (fun _ hsub => ARun.loadNL rfl rfl rfl) ?_
  refine RunA.op rfl rfl rfl rfl ?_
  refine AOp.call_ rfl rfl ((hsame _).mono ?_)
  rintro _ _ ⟨rfl, rfl⟩; refine ⟨fun _ q => q, ?_⟩
  refine RunA.pure rfl rfl rfl rfl rfl (fun _ => ARun.mvV (.inl rfl) rfl) ?_
  refine RunA.pureG rfl rfl rfl rfl rfl rfl (by decide) rfl (fun _ => ARun.mvV (.inl rfl) rfl) ?_
  refine RunA.pureG rfl rfl rfl rfl rfl rfl (by decide) rfl (fun _ => ARun.mvV (.inl rfl) rfl) ?_
  refine RunA.pureG rfl rfl rfl rfl rfl rfl (by decide) rfl (fun _ => ARun.eqlV rfl rfl rfl (decide_eq_true rfl)) ?_
  refine RunA.pure rfl rfl rfl rfl rfl (fun _ => ARun.pickT rfl rfl) ?_
  refine RunA.pure rfl rfl rfl rfl rfl (fun _ => ARun.mvV (.inl rfl) rfl) ?_
  refine RunA.pureG rfl rfl rfl rfl rfl rfl (by decide) rfl (fun _ => ARun.mvV (.inl rfl) rfl) ?_
  refine RunA.pureG rfl rfl rfl rfl rfl rfl (by decide) rfl (fun _ => ARun.mvV (.inl rfl) rfl) ?_
  refine RunA.pureG rfl rfl rfl rfl rfl rfl (by decide) rfl (fun _ => ARun.eqlV rfl rfl rfl (decide_eq_true rfl)) ?_
  refine RunA.pure rfl rfl rfl rfl rfl (fun _ => ARun.pickT rfl rfl) ?_
  refine RunA.pure rfl rfl rfl rfl rfl (fun _ => ARun.mvV (.inl rfl) rfl) ?_
  refine RunA.calmG rfl rfl rfl rfl rfl rfl (by decide) rfl (HSub.refl _) (fun _ hsub => ARun.loadNL rfl rfl rfl) ?_
  refine RunA.calmG rfl rfl rfl rfl rfl rfl (by decide) rfl (HSub.refl _) (fun _ hsub => ARun.loadNL rfl rfl rfl) ?_
  refine RunA.pureG rfl rfl rfl rfl rfl rfl (by decide) rfl (fun _ => ARun.mvV (.inl rfl) rfl) ?_
  refine RunA.calmG rfl rfl rfl rfl rfl rfl (by decide) rfl (HSub.refl _) (fun _ hsub => ARun.loadNL rfl rfl rfl) ?_
  refine RunA.calmG rfl rfl rfl rfl rfl rfl (by decide) rfl (HSub.refl _) (fun _ hsub => ARun.loadNL rfl rfl rfl) ?_
  refine RunA.pureG rfl rfl rfl rfl rfl rfl (by decide) rfl (fun _ => ARun.mvV (.inl rfl) rfl) ?_
  refine RunA.opG rfl rfl rfl rfl rfl (by decide) rfl ?_
  refine AOp.call_ rfl rfl ((Proves_spec l x size true _ hm).mono ?_)
  rintro _ _ ⟨rfl, rfl⟩; refine ⟨fun _ q => q, ?_⟩
  refine RunA.opG rfl rfl rfl rfl rfl (by decide) rfl ?_
  refine AOp.call_ rfl rfl ((ProvesR_spec l x size true _ hm).mono ?_)
  rintro _ _ ⟨rfl, rfl⟩; refine ⟨fun _ q => q, ?_⟩
  refine RunA.pureG rfl rfl rfl rfl rfl rfl (by decide) rfl (fun _ => ARun.eqlBV rfl rfl rfl rfl (beq_self_eq_true _)) ?_
  refine RunA.pure rfl rfl rfl rfl rfl (fun _ => ARun.pickT rfl rfl) ?_
  refine RunA.pure rfl rfl rfl rfl rfl (fun _ => ARun.mvV (.inl rfl) rfl) ?_
  refine RunA.calmG rfl rfl rfl rfl rfl rfl (by decide) rfl (HSub.refl _) (fun _ hsub => ARun.loadNL rfl rfl rfl) ?_
  refine RunA.calmG rfl rfl rfl rfl rfl rfl (by decide) rfl (HSub.refl _) (fun _ hsub => ARun.loadNL rfl rfl rfl) ?_
  refine RunA.pureG rfl rfl rfl rfl rfl rfl (by decide) rfl (fun _ => ARun.mvV (.inl rfl) rfl) ?_
  refine RunA.calmG rfl rfl rfl rfl rfl rfl (by decide) rfl (HSub.refl _) (fun _ hsub => ARun.loadNL rfl rfl rfl) ?_
  refine RunA.calmG rfl rfl rfl rfl rfl rfl (by decide) rfl (HSub.refl _) (fun _ hsub => ARun.loadNL rfl rfl rfl) ?_
  refine RunA.pureG rfl rfl rfl rfl rfl rfl (by decide) rfl (fun _ => ARun.mvV (.inl rfl) rfl) ?_
  refine RunA.opG rfl rfl rfl rfl rfl (by decide) rfl ?_
  refine AOp.call_ rfl rfl ((Proves_spec l x size false _ hm).mono ?_)
  rintro _ _ ⟨rfl, rfl⟩; refine ⟨fun _ q => q, ?_⟩
  refine RunA.opG rfl rfl rfl rfl rfl (by decide) rfl ?_
  refine AOp.call_ rfl rfl ((ProvesR_spec l x size false _ hm).mono ?_)
  rintro _ _ ⟨rfl, rfl⟩; refine ⟨fun _ q => q, ?_⟩
  refine RunA.pureG rfl rfl rfl rfl rfl rfl (by decide) rfl (fun _ => ARun.eqlBV rfl rfl rfl rfl (beq_self_eq_true _)) ?_
  refine RunA.pure rfl rfl rfl rfl rfl (fun _ => ARun.pickT rfl rfl) ?_
  refine RunA.pure rfl rfl rfl rfl rfl (fun _ => ARun.mvV (.inl rfl) rfl) ?_
  refine RunA.opG rfl rfl rfl rfl rfl (by decide) rfl ?_
  refine AOp.call_ rfl rfl ((heads20_spec _).mono ?_)
  rintro _ _ ⟨rfl, rfl⟩; refine ⟨fun _ q => q, ?_⟩
  refine RunA.pure rfl rfl rfl rfl rfl (fun _ => ARun.pickT rfl rfl) ?_
  refine RunA.pure rfl rfl rfl rfl rfl (fun _ => ARun.mvV (.inr rfl) rfl) ?_
  refine RunA.nil ?_
  (repeat (first | refine AC.seq ?_ | refine AC.block ?_ | refine AC.skip ?_ | refine AC.exit ?_))
  refine AC.ret (ARes.one rfl (RV.V rfl) ⟨rfl, rfl⟩)
end Go.Proofs.Ytilanageangegaa

/- What an argument reads as: the numbers and lists that stand in it, with how many there are at most. No statement is proved here. -/
set_option linter.unusedVariables false
set_option linter.unusedSimpArgs false
namespace Go.Proofs.Ytilanageangegaa
open Go.Ab

/-- Cells that read as these abstract ones. -/
def CV (w : World) (as_ : List AVal) (cs : List Value) : Prop := cs.length = as_.length ∧ ∀ i (h1 : i < as_.length) (h2 : i < cs.length), VR w h00 as_[i] cs[i]
theorem CV.nil (w : World) : CV w [] [] := ⟨rfl, fun i h1 => by simp at h1⟩
theorem CV.app {w : World} {a b : List AVal} {c d : List Value} (x : CV w a c) (y : CV w b d) : CV w (a ++ b) (c ++ d) := by
  refine ⟨by rw [List.length_append, List.length_append, x.1, y.1], fun i h1 h2 => ?_⟩
  rcases Nat.lt_or_ge i a.length with q | q
  · rw [List.getElem_append_left q, List.getElem_append_left (by rw [x.1]; exact q)]
    exact x.2 i q _
  · rw [List.getElem_append_right q, List.getElem_append_right (by rw [x.1]; exact q)]
    have := y.2 (i - a.length) (by simp at h1; omega) (by have := x.1; simp at h2; omega)
    simp only [x.1]
    exact this
/-- The cells from place off on, piece for piece. -/
def Pieces (w : World) (cs : List Value) : Nat → List (List AVal) → Prop
  | off, [] => cs.length ≤ off
  | off, a :: L => CV w a ((cs.drop off).take a.length) ∧ Pieces w cs (off + a.length) L
theorem Pieces.cv {w : World} {cs : List Value} : ∀ {L : List (List AVal)} {off : Nat}, Pieces w cs off L → CV w L.flatten (cs.drop off)
  | [], off, h => by rw [List.drop_eq_nil_of_le h]; exact CV.nil w
  | a :: L, off, ⟨h1, h2⟩ => by
    have h3 := Pieces.cv h2
    have e : cs.drop off = (cs.drop off).take a.length ++ cs.drop (off + a.length) := by
      rw [← List.drop_drop, List.take_append_drop]
    rw [e]
    exact h1.app h3
/-- How much a reading bears. -/
abbrev bulk {H : Type} (d : DataW H) : Nat := Rows.uptoBulk d
theorem bulk_one {H : Type} (d : DataW H) : 1 ≤ bulk d := by
  cases d with
  | lit l => cases l <;> simp [bulk, Rows.uptoBulk]
  | _ => simp [bulk, Rows.uptoBulk]
theorem bulk_part {H : Type} {d : DataW H} {l : List (DataW H)} (h : d ∈ l) : bulk d ≤ Rows.uptoBulkAll l := by
  induction l with
  | nil => cases h
  | cons x r ih =>
    simp only [Rows.uptoBulkAll]
    cases List.mem_cons.1 h with
    | inl e => subst e; exact Nat.le_add_right _ _
    | inr e => have := ih e; omega
theorem bulk_len {H : Type} {b : Nat} : ∀ (l : List (DataW H)), (∀ d ∈ l, b ≤ bulk d) → l.length * b ≤ Rows.uptoBulkAll l
  | [], _ => by simp
  | d :: l, h => by
    have h1 := bulk_len l fun x hx => h x (by simp [hx])
    have h2 := h d (by simp)
    simp only [Rows.uptoBulkAll, List.length_cons, Nat.succ_mul]
    have : bulk d = Rows.uptoBulk d := rfl
    omega

/-- What reads as type t is one of these, and b at least is what each bears. -/
def RdT {α : Type} (P : Program) (t : TypeId) (b : Nat) (f : α → List AVal) (Q : α → Nat → Prop) : Prop :=
  ∀ (H : Type) (enc : TypeId × Value → H) (w : World) (fuel : Nat) (cs : List Value) (x : DataW H × List MemPlace), DataW.trod enc P w 0 (fun _ => true) true fuel t cs = some x → b ≤ bulk x.1 ∧ ∃ a : α, CV w (f a) cs ∧ Q a (bulk x.1)
section
variable {P : Program}
theorem rd_int {t : TypeId} {k : IntKind} (ht : P.underlying t = some (.int k)) : RdT P t 1 (fun n : Int => [.v (.int k n)]) (fun n _ => (Lit.int k n).wf = true) := by
  intro H enc w fuel cs x h
  refine ⟨bulk_one _, ?_⟩
  cases fuel with
  | zero => simp [DataW.trod] at h
  | succ m =>
    unfold DataW.trod at h
    rw [ht] at h
    split at h <;> (try (simp_all; done))
    rename_i k1 k2 n e1
    split at h <;> (try (simp_all; done))
    rename_i hc
    obtain ⟨rfl, hwf⟩ := hc
    injection e1 with e1
    injection e1 with e1
    subst e1
    exact ⟨n, ⟨rfl, fun i h1 h2 => by
      have : i = 0 := by simpa using h1
      subst this; exact .v _⟩, hwf⟩
theorem rd_bool {t : TypeId} (ht : P.underlying t = some .bool) : RdT P t 1 (fun b : Bool => [.v (.bool b)]) (fun _ _ => True) := by
  intro H enc w fuel cs x h
  refine ⟨bulk_one _, ?_⟩
  cases fuel with
  | zero => simp [DataW.trod] at h
  | succ m =>
    unfold DataW.trod at h
    rw [ht] at h
    split at h <;> (try (simp_all; done))
    rename_i b e1
    exact ⟨b, ⟨rfl, fun i h1 h2 => by
      have : i = 0 := by simpa using h1
      subst this; exact .v _⟩, trivial⟩
theorem list_of {α : Type} {p : Nat → α → Prop} : ∀ (n : Nat), (∀ i, i < n → ∃ a, p i a) → ∃ l : List α, l.length = n ∧ ∀ i (hi : i < l.length), p i l[i]
  | 0, _ => ⟨[], rfl, fun i hi => by simp at hi⟩
  | n + 1, h => by
    obtain ⟨l, hl, hp⟩ := list_of n fun i hi => h i (by omega)
    obtain ⟨a, ha⟩ := h n (by omega)
    refine ⟨l ++ [a], by simp [hl], fun i hi => ?_⟩
    rcases Nat.lt_or_ge i l.length with q | q
    · rw [List.getElem_append_left q]; exact hp i q
    · have : i = n := by simp at hi; omega
      subst this
      rw [List.getElem_append_right q]
      simpa [hl] using ha
theorem cells_get {w : World} {a : Addr} {n : Nat} {cs : List Value} (h : w.cells? 0 a n = some cs) : cs.length = n ∧ ∀ i (hi : i < cs.length), w.cell? (a.add i) = some cs[i] := by
  unfold World.cells? at h
  rw [if_pos (Nat.zero_le _)] at h
  have h1 := mapM_some_length h
  refine ⟨by simpa using h1, fun i hi => ?_⟩
  have := mapM_some_get h i i (by have : cs.length = n := by simpa using h1
                                  rw [List.getElem?_range (by omega)])
  rw [this, List.getElem?_eq_getElem hi]
theorem rd_slice {α : Type} {t e : TypeId} {b s : Nat} {f : α → List AVal} {Q : α → Nat → Prop} (R : RdT P e b f Q) (ht : P.underlying t = some (.slice e)) (hs : P.cellsOf e = s) (hs0 : 0 < s) (hf : ∀ a, (f a).length = s) :
    RdT P t 1 (fun l : List α => [.ls l.length (l.flatMap f)]) (fun l n => l.length * b ≤ n ∧ ∀ a ∈ l, ∃ m, m ≤ n ∧ Q a m) := by
  intro H enc w fuel cs x h
  refine ⟨bulk_one _, ?_⟩
  rcases Go.Deep.open_slice ht h with ⟨rfl, rfl⟩ | ⟨a, len, cap, m, n, D, Pl, rfl, _, hlc, _, hm, rfl, hel⟩
  · exact ⟨[], ⟨rfl, fun i h1 h2 => by
      have : i = 0 := by simpa using h1
      subst this; exact .ls0 _ _⟩, by simp, fun a ha => by simp at ha⟩
  · rw [if_pos rfl] at hm
    subst hm
    obtain ⟨l, hl, hp⟩ := list_of (p := fun i y => ∃ cs', w.cells? 0 (a.add (i * s)) s = some cs' ∧ CV w (f y) cs' ∧ Q y (bulk (D i)) ∧ b ≤ bulk (D i)) len fun i hi => by
      obtain ⟨cs', h1, h2⟩ := hel i (by omega)
      obtain ⟨hb, y, h3, h4⟩ := R H enc w n cs' _ h2
      rw [hs] at h1
      exact ⟨y, cs', h1, h3, h4, hb⟩
    have hbulk : Rows.uptoBulkAll ((List.range len).map D) ≤ bulk (DataW.slice ((List.range len).map D) ((List.range (m - len)).map fun j => D (len + j))) := by
      simp only [bulk, Rows.uptoBulk]; omega
    have hpart : ∀ i, i < len → bulk (D i) ≤ bulk (DataW.slice ((List.range len).map D) ((List.range (m - len)).map fun j => D (len + j))) := fun i hi =>
      Nat.le_trans (bulk_part (List.mem_map.2 ⟨i, List.mem_range.2 hi, rfl⟩)) hbulk
    refine ⟨l, ⟨rfl, fun i h1 h2 => ?_⟩, ?_, fun y hy => ?_⟩
    · have hi0 : i = 0 := by simpa using h1
      subst hi0
      show VR w h00 (.ls l.length (l.flatMap f)) (.slice (some a) len m)
      rw [hl]
      rcases Nat.eq_zero_or_pos len with e0 | e0
      · subst e0
        have : l = [] := List.eq_nil_of_length_eq_zero hl
        subst this
        exact .ls0 _ _
      · have hfl := flatMap_length f s hf l
        -- every cell
        have hcell : ∀ q (hq : q < (l.flatMap f).length), ∃ v, w.cell? (a.add q) = some v ∧ VR w h00 (l.flatMap f)[q] v := fun q hq => by
          have h3 : q / s < l.length := by rw [Nat.div_lt_iff_lt_mul hs0]; omega
          have h4 : q % s < s := Nat.mod_lt _ hs0
          obtain ⟨cs', c1, c2, _⟩ := hp (q / s) h3
          obtain ⟨d1, d2⟩ := cells_get c1
          have h5 : q % s < cs'.length := by omega
          have e1 := get_flatMap hf h3 h4
          have e2 : q / s * s + q % s = q := by rw [Nat.mul_comm]; exact Nat.div_add_mod q s
          rw [e2, List.getElem?_eq_getElem hq] at e1
          have h6 : q % s < (f l[q / s]).length := by rw [hf]; exact h4
          rw [List.getElem?_eq_getElem h6] at e1
          refine ⟨cs'[q % s], ?_, ?_⟩
          · have := d2 (q % s) h5
            rw [← this]
            rw [Go.Deep.add_add, e2]
          · rw [Option.some.inj e1]; exact c2.2 _ h6 h5
        have h0 : 0 < (l.flatMap f).length := by rw [hfl, hl]; exact Nat.mul_pos e0 hs0
        obtain ⟨v0, hv0, _⟩ := hcell 0 h0
        unfold World.cell? at hv0
        split at hv0
        · rename_i C t' fr hw
          split at hv0
          · cases hv0
          · rename_i hsp
            obtain ⟨ab, ao, asp⟩ := a
            have hspn : asp = none := by
              cases asp with
              | none => rfl
              | some z => exact absurd (show ((⟨ab, ao, some z⟩ : Addr).add 0).spot.isSome = true from rfl) hsp
            subst hspn
            have hw' : w.heap[ab]? = some (.cells C t' fr) := hw
            have hC : ∀ q (hq : q < (l.flatMap f).length), ∃ v, C[ao + q]? = some v ∧ VR w h00 (l.flatMap f)[q] v := fun q hq => by
              obtain ⟨v, e1, e2⟩ := hcell q hq
              refine ⟨v, ?_, e2⟩
              have ea : (⟨ab, ao, none⟩ : Addr).add q = ⟨ab, ao + q, none⟩ := by
                unfold Addr.add
                split
                · rename_i e; subst e; rfl
                · rfl
              rw [ea] at e1
              unfold World.cell? at e1
              simp only [hw'] at e1
              simpa using e1
            refine .ls ab ao len m (l.flatMap f) C t' fr rfl hw' hlc ?_ fun q h1 h2 => ?_
            · obtain ⟨v, e1, _⟩ := hC ((l.flatMap f).length - 1) (by omega)
              have := (Array.getElem?_eq_some_iff.1 e1).1
              omega
            · obtain ⟨v, e1, e2⟩ := hC q h1
              obtain ⟨_, e3⟩ := Array.getElem?_eq_some_iff.1 e1
              rw [e3]; exact e2
        · cases hv0
    · have := bulk_len (b := b) ((List.range len).map D) fun d hd => by
        obtain ⟨i, hi, rfl⟩ := List.mem_map.1 hd
        have hi' := List.mem_range.1 hi
        obtain ⟨_, _, _, _, hb⟩ := hp i (by omega)
        exact hb
      rw [List.length_map, List.length_range] at this
      rw [hl]
      exact Nat.le_trans this hbulk
    · obtain ⟨i, hi, rfl⟩ := List.getElem_of_mem hy
      obtain ⟨_, _, _, hq, _⟩ := hp i hi
      exact ⟨_, hpart i (by omega), hq⟩
/-- A field of a struct. -/
theorem rd_field {α : Type} {H : Type} {enc : TypeId × Value → H} {w : World} {ft : TypeId} {b s off m : Nat} {f : α → List AVal} {Q : α → Nat → Prop} {cs : List Value} {xs : List (DataW H × List MemPlace)} {i : Nat} (R : RdT P ft b f Q) (hs : P.cellsOf ft = s)
    (h : DataW.trod enc P w 0 (fun _ => true) true m ft ((cs.drop off).take (P.cellsOf ft)) = xs[i]?) (hi : i < xs.length) : ∃ a : α, CV w (f a) ((cs.drop off).take s) ∧ ∃ k, k ≤ bulk (DataW.agg (xs.map (·.1))) ∧ Q a k := by
  rw [List.getElem?_eq_getElem hi] at h
  obtain ⟨_, a, h1, h2⟩ := R H enc w m _ _ h
  rw [hs] at h1
  refine ⟨a, h1, _, ?_, h2⟩
  have := bulk_part (List.mem_map.2 ⟨xs[i], List.getElem_mem hi, rfl⟩ : xs[i].1 ∈ xs.map (·.1))
  simp only [bulk, Rows.uptoBulk] at this ⊢
  omega
theorem bulk_agg {H : Type} {xs : List (DataW H)} (h : 0 < xs.length) : 2 ≤ bulk (DataW.agg xs) := by
  have := bulk_len (b := 1) xs fun d _ => bulk_one d
  simp only [bulk, Rows.uptoBulk]; omega
end
end Go.Proofs.Ytilanageangegaa

/- How code, layouts and facts read. MADE BY wip/gen_rd.py. No statement is proved here. -/
set_option linter.unusedVariables false
namespace Go.Proofs.Ytilanageangegaa
open Go.Ab

theorem map_flat {α : Type} (g : α → AVal) (l : List α) : l.flatMap (fun a => [g a]) = l.map g := by induction l with
  | nil => rfl
  | cons a l ih => simp [List.flatMap_cons, ih]
theorem u64_pos {n : Int} (h : (Lit.int .u64 n).wf = true) : 0 ≤ n := by
  simp [Lit.wf, IntKind.min, IntKind.max, IntKind.signed, IntKind.bits] at h
  exact h.1
theorem rd_ints : RdT Try.prog 53 1 (fun l : List Int => [eIs l]) (fun l n => l.length ≤ n) := by
  intro H enc w fuel cs x h
  obtain ⟨hb, l, h1, h2, _⟩ := rd_slice (rd_int Try.underlying3) Try.underlying53 (by kernel_rfl) (by decide) (fun _ => rfl) H enc w fuel cs x h
  have e : (l.flatMap fun n => [AVal.v (.int .i64 n)]) = l.map eI := map_flat eI l
  have h1 : CV w [AVal.ls l.length (l.flatMap fun n => [AVal.v (.int .i64 n)])] cs := h1
  rw [e] at h1
  exact ⟨hb, l, h1, by simpa using h2⟩
theorem rd_term : RdT Try.prog 58 2 (fun a : DTerm => eTerm a) (fun a n => True) := by
  intro H enc w fuel cs x h
  obtain ⟨xs, m, _, rfl, hl, hxl, hx⟩ := DataW.trod_struct Try.underlying58 h
  rw [show Try.prog.cellsOf 58 = 7 from by kernel_rfl] at hl
  have hn : xs.length = 7 := hxl
  obtain ⟨a0, c0, k0, l0, q0⟩ := rd_field (s := 1) (rd_int Try.underlying56) (by kernel_rfl) (hx 0 _ rfl) (by omega)
  obtain ⟨a1, c1, k1, l1, q1⟩ := rd_field (s := 1) (rd_int Try.underlying3) (by kernel_rfl) (hx 1 _ rfl) (by omega)
  obtain ⟨a2, c2, k2, l2, q2⟩ := rd_field (s := 1) (rd_bool Try.underlying4) (by kernel_rfl) (hx 2 _ rfl) (by omega)
  obtain ⟨a3, c3, k3, l3, q3⟩ := rd_field (s := 1) (rd_int Try.underlying3) (by kernel_rfl) (hx 3 _ rfl) (by omega)
  obtain ⟨a4, c4, k4, l4, q4⟩ := rd_field (s := 1) (rd_int Try.underlying3) (by kernel_rfl) (hx 4 _ rfl) (by omega)
  obtain ⟨a5, c5, k5, l5, q5⟩ := rd_field (s := 1) (rd_int Try.underlying3) (by kernel_rfl) (hx 5 _ rfl) (by omega)
  obtain ⟨a6, c6, k6, l6, q6⟩ := rd_field (s := 1) (rd_int Try.underlying3) (by kernel_rfl) (hx 6 _ rfl) (by omega)
  refine ⟨bulk_agg (by rw [List.length_map]; omega), ⟨a0, a1, a2, a3, a4, a5, a6⟩, ?_, ?_⟩
  · exact Pieces.cv (off := 0) (L := [[eI a0], [eI a1], [eB a2], [eI a3], [eI a4], [eI a5], [eI a6]]) ⟨c0, c1, c2, c3, c4, c5, c6, Nat.le_of_eq hl⟩
  · trivial
theorem rd_phi : RdT Try.prog 88 2 (fun a : DPhi => ePhi a) (fun a n => a.frm.length ≤ n) := by
  intro H enc w fuel cs x h
  obtain ⟨xs, m, _, rfl, hl, hxl, hx⟩ := DataW.trod_struct Try.underlying88 h
  rw [show Try.prog.cellsOf 88 = 2 from by kernel_rfl] at hl
  have hn : xs.length = 2 := hxl
  obtain ⟨a0, c0, k0, l0, q0⟩ := rd_field (s := 1) (rd_int Try.underlying3) (by kernel_rfl) (hx 0 _ rfl) (by omega)
  obtain ⟨a1, c1, k1, l1, q1⟩ := rd_field (s := 1) rd_ints (by kernel_rfl) (hx 1 _ rfl) (by omega)
  refine ⟨bulk_agg (by rw [List.length_map]; omega), ⟨a0, a1⟩, ?_, ?_⟩
  · exact Pieces.cv (off := 0) (L := [[eI a0], [eIs a1]]) ⟨c0, c1, Nat.le_of_eq hl⟩
  · exact Nat.le_trans q1 l1
theorem rd_node : RdT Try.prog 64 2 (fun a : DNode => eNode a) (fun a n => a.args.length ≤ n ∧ 0 ≤ a.imm) := by
  intro H enc w fuel cs x h
  obtain ⟨xs, m, _, rfl, hl, hxl, hx⟩ := DataW.trod_struct Try.underlying64 h
  rw [show Try.prog.cellsOf 64 = 12 from by kernel_rfl] at hl
  have hn : xs.length = 12 := hxl
  obtain ⟨a0, c0, k0, l0, q0⟩ := rd_field (s := 1) (rd_int Try.underlying61) (by kernel_rfl) (hx 0 _ rfl) (by omega)
  obtain ⟨a1, c1, k1, l1, q1⟩ := rd_field (s := 1) (rd_int Try.underlying3) (by kernel_rfl) (hx 1 _ rfl) (by omega)
  obtain ⟨a2, c2, k2, l2, q2⟩ := rd_field (s := 1) (rd_int Try.underlying3) (by kernel_rfl) (hx 2 _ rfl) (by omega)
  obtain ⟨a3, c3, k3, l3, q3⟩ := rd_field (s := 1) (rd_bool Try.underlying4) (by kernel_rfl) (hx 3 _ rfl) (by omega)
  obtain ⟨a4, c4, k4, l4, q4⟩ := rd_field (s := 1) (rd_int Try.underlying3) (by kernel_rfl) (hx 4 _ rfl) (by omega)
  obtain ⟨a5, c5, k5, l5, q5⟩ := rd_field (s := 1) (rd_int Try.underlying3) (by kernel_rfl) (hx 5 _ rfl) (by omega)
  obtain ⟨a6, c6, k6, l6, q6⟩ := rd_field (s := 1) (rd_int Try.underlying62) (by kernel_rfl) (hx 6 _ rfl) (by omega)
  obtain ⟨a7, c7, k7, l7, q7⟩ := rd_field (s := 1) (rd_int Try.underlying3) (by kernel_rfl) (hx 7 _ rfl) (by omega)
  obtain ⟨a8, c8, k8, l8, q8⟩ := rd_field (s := 1) (rd_int Try.underlying3) (by kernel_rfl) (hx 8 _ rfl) (by omega)
  obtain ⟨a9, c9, k9, l9, q9⟩ := rd_field (s := 1) (rd_bool Try.underlying4) (by kernel_rfl) (hx 9 _ rfl) (by omega)
  obtain ⟨a10, c10, k10, l10, q10⟩ := rd_field (s := 1) rd_ints (by kernel_rfl) (hx 10 _ rfl) (by omega)
  obtain ⟨a11, c11, k11, l11, q11⟩ := rd_field (s := 1) (rd_int Try.underlying3) (by kernel_rfl) (hx 11 _ rfl) (by omega)
  refine ⟨bulk_agg (by rw [List.length_map]; omega), ⟨a0, a1, a2, a3, a4, a5, a6, a7, a8, a9, a10, a11⟩, ?_, ?_⟩
  · exact Pieces.cv (off := 0) (L := [[eI a0], [eI a1], [eI a2], [eB a3], [eI a4], [eI a5], [eU a6], [eI a7], [eI a8], [eB a9], [eIs a10], [eI a11]]) ⟨c0, c1, c2, c3, c4, c5, c6, c7, c8, c9, c10, c11, Nat.le_of_eq hl⟩
  · exact ⟨Nat.le_trans q10 l10, u64_pos q6⟩
theorem rd_phis : RdT Try.prog 54 1 (fun l : List DPhi => [ePhis l]) (fun l n => l.length ≤ n ∧ ∀ x ∈ l, x.frm.length ≤ n) := by
  intro H enc w fuel cs x h
  obtain ⟨hb, l, h1, h2, h3⟩ := rd_slice rd_phi Try.underlying54 (by kernel_rfl) (by decide) ePhi_len H enc w fuel cs x h
  exact ⟨hb, l, h1, by omega, fun x hx => by obtain ⟨m, hm, q⟩ := h3 x hx; omega⟩
theorem rd_nodes : RdT Try.prog 55 1 (fun l : List DNode => [eNodes l]) (fun l n => l.length ≤ n ∧ ∀ x ∈ l, x.args.length ≤ n ∧ 0 ≤ x.imm) := by
  intro H enc w fuel cs x h
  obtain ⟨hb, l, h1, h2, h3⟩ := rd_slice rd_node Try.underlying55 (by kernel_rfl) (by decide) eNode_len H enc w fuel cs x h
  exact ⟨hb, l, h1, by omega, fun x hx => by obtain ⟨m, hm, q⟩ := h3 x hx; exact ⟨by omega, q.2⟩⟩
def PQ (p : DPart) (n : Nat) : Prop := p.pred.length ≤ n ∧ (p.phis.length ≤ n ∧ ∀ x ∈ p.phis, x.frm.length ≤ n) ∧ p.nodes.length ≤ n ∧ ∀ x ∈ p.nodes, x.args.length ≤ n ∧ 0 ≤ x.imm
theorem PQ.mono {p : DPart} {m n : Nat} (h : PQ p m) (hm : m ≤ n) : PQ p n :=
  ⟨Nat.le_trans h.1 hm, ⟨Nat.le_trans h.2.1.1 hm, fun x hx => Nat.le_trans (h.2.1.2 x hx) hm⟩, Nat.le_trans h.2.2.1 hm, fun x hx => ⟨Nat.le_trans (h.2.2.2 x hx).1 hm, (h.2.2.2 x hx).2⟩⟩
theorem PQ.sz {p : DPart} {n : Nat} (h : PQ p n) (hn : n ≤ 1048576) : SzP p :=
  ⟨by have := h.2.1.1; omega, by have := h.2.2.1; omega, by have := h.1; omega, fun x hx => by have := h.2.1.2 x hx; omega, fun x hx => by have := (h.2.2.2 x hx).1; omega, fun x hx => (h.2.2.2 x hx).2⟩
theorem rd_part : RdT Try.prog 60 2 (fun a : DPart => ePart a) (fun a n => PQ a n) := by
  intro H enc w fuel cs x h
  obtain ⟨xs, m, _, rfl, hl, hxl, hx⟩ := DataW.trod_struct Try.underlying60 h
  rw [show Try.prog.cellsOf 60 = 10 from by kernel_rfl] at hl
  have hn : xs.length = 4 := hxl
  obtain ⟨a0, c0, k0, l0, q0⟩ := rd_field (s := 1) rd_ints (by kernel_rfl) (hx 0 _ rfl) (by omega)
  obtain ⟨a1, c1, k1, l1, q1⟩ := rd_field (s := 1) rd_phis (by kernel_rfl) (hx 1 _ rfl) (by omega)
  obtain ⟨a2, c2, k2, l2, q2⟩ := rd_field (s := 1) rd_nodes (by kernel_rfl) (hx 2 _ rfl) (by omega)
  obtain ⟨a3, c3, k3, l3, q3⟩ := rd_field (s := 7) rd_term (by kernel_rfl) (hx 3 _ rfl) (by omega)
  refine ⟨bulk_agg (by rw [List.length_map]; omega), ⟨a0, a1, a2, a3⟩, ?_, ?_⟩
  · exact Pieces.cv (off := 0) (L := [[eIs a0], [ePhis a1], [eNodes a2], eTerm a3]) ⟨c0, c1, c2, c3, Nat.le_of_eq hl⟩
  · exact ⟨Nat.le_trans q0 l0, ⟨Nat.le_trans q1.1 l1, fun x hx => Nat.le_trans (q1.2 x hx) l1⟩, Nat.le_trans q2.1 l2, fun x hx => ⟨Nat.le_trans (q2.2 x hx).1 l2, (q2.2 x hx).2⟩⟩
theorem rd_parts : RdT Try.prog 27 1 (fun l : List DPart => [eParts l]) (fun l n => l.length ≤ n ∧ ∀ x ∈ l, PQ x n) := by
  intro H enc w fuel cs x h
  obtain ⟨hb, l, h1, h2, h3⟩ := rd_slice rd_part Try.underlying27 (by kernel_rfl) (by decide) ePart_len H enc w fuel cs x h
  exact ⟨hb, l, h1, by omega, fun x hx => by obtain ⟨m, hm, q⟩ := h3 x hx; exact q.mono hm⟩
theorem rd_ir : RdT Try.prog 29 2 (fun a : DIr => eIr a) (fun a n => a.parts.length ≤ n ∧ ∀ p ∈ a.parts, PQ p n) := by
  intro H enc w fuel cs x h
  obtain ⟨xs, m, _, rfl, hl, hxl, hx⟩ := DataW.trod_struct Try.underlying29 h
  rw [show Try.prog.cellsOf 29 = 2 from by kernel_rfl] at hl
  have hn : xs.length = 2 := hxl
  obtain ⟨a0, c0, k0, l0, q0⟩ := rd_field (s := 1) rd_parts (by kernel_rfl) (hx 0 _ rfl) (by omega)
  obtain ⟨a1, c1, k1, l1, q1⟩ := rd_field (s := 1) (rd_int Try.underlying3) (by kernel_rfl) (hx 1 _ rfl) (by omega)
  refine ⟨bulk_agg (by rw [List.length_map]; omega), ⟨a0, a1⟩, ?_, ?_⟩
  · exact Pieces.cv (off := 0) (L := [[eParts a0], [eI a1]]) ⟨c0, c1, Nat.le_of_eq hl⟩
  · exact ⟨Nat.le_trans q0.1 l0, fun p hp => (q0.2 p hp).mono l0⟩
theorem rd_area : RdT Try.prog 23 2 (fun a : DArea => eAr a) (fun a n => True) := by
  intro H enc w fuel cs x h
  obtain ⟨xs, m, _, rfl, hl, hxl, hx⟩ := DataW.trod_struct Try.underlying23 h
  rw [show Try.prog.cellsOf 23 = 2 from by kernel_rfl] at hl
  have hn : xs.length = 2 := hxl
  obtain ⟨a0, c0, k0, l0, q0⟩ := rd_field (s := 1) (rd_int Try.underlying3) (by kernel_rfl) (hx 0 _ rfl) (by omega)
  obtain ⟨a1, c1, k1, l1, q1⟩ := rd_field (s := 1) (rd_bool Try.underlying4) (by kernel_rfl) (hx 1 _ rfl) (by omega)
  refine ⟨bulk_agg (by rw [List.length_map]; omega), ⟨a0, a1⟩, ?_, ?_⟩
  · exact Pieces.cv (off := 0) (L := [[eI a0], [eB a1]]) ⟨c0, c1, Nat.le_of_eq hl⟩
  · trivial
theorem rd_areas : RdT Try.prog 24 1 (fun l : List DArea => [eArs l]) (fun l n => l.length * 2 ≤ n) := by
  intro H enc w fuel cs x h
  obtain ⟨hb, l, h1, h2, h3⟩ := rd_slice rd_area Try.underlying24 (by kernel_rfl) (by decide) eArea_len H enc w fuel cs x h
  exact ⟨hb, l, h1, h2⟩
theorem rd_lay : RdT Try.prog 26 2 (fun a : DLay => eLay a) (fun a n => a.maps.length * 2 ≤ n) := by
  intro H enc w fuel cs x h
  obtain ⟨xs, m, _, rfl, hl, hxl, hx⟩ := DataW.trod_struct Try.underlying26 h
  rw [show Try.prog.cellsOf 26 = 3 from by kernel_rfl] at hl
  have hn : xs.length = 2 := hxl
  obtain ⟨a0, c0, k0, l0, q0⟩ := rd_field (s := 2) rd_area (by kernel_rfl) (hx 0 _ rfl) (by omega)
  obtain ⟨a1, c1, k1, l1, q1⟩ := rd_field (s := 1) rd_areas (by kernel_rfl) (hx 1 _ rfl) (by omega)
  refine ⟨bulk_agg (by rw [List.length_map]; omega), ⟨a0, a1⟩, ?_, ?_⟩
  · exact Pieces.cv (off := 0) (L := [eAr a0, [eArs a1]]) ⟨c0, c1, Nat.le_of_eq hl⟩
  · exact Nat.le_trans q1 l1
theorem rd_fact : RdT Try.prog 42 2 (fun a : DFact => eFact a) (fun a n => True) := by
  intro H enc w fuel cs x h
  obtain ⟨xs, m, _, rfl, hl, hxl, hx⟩ := DataW.trod_struct Try.underlying42 h
  rw [show Try.prog.cellsOf 42 = 4 from by kernel_rfl] at hl
  have hn : xs.length = 4 := hxl
  obtain ⟨a0, c0, k0, l0, q0⟩ := rd_field (s := 1) (rd_bool Try.underlying4) (by kernel_rfl) (hx 0 _ rfl) (by omega)
  obtain ⟨a1, c1, k1, l1, q1⟩ := rd_field (s := 1) (rd_int Try.underlying3) (by kernel_rfl) (hx 1 _ rfl) (by omega)
  obtain ⟨a2, c2, k2, l2, q2⟩ := rd_field (s := 1) (rd_int Try.underlying2) (by kernel_rfl) (hx 2 _ rfl) (by omega)
  obtain ⟨a3, c3, k3, l3, q3⟩ := rd_field (s := 1) (rd_int Try.underlying2) (by kernel_rfl) (hx 3 _ rfl) (by omega)
  refine ⟨bulk_agg (by rw [List.length_map]; omega), ⟨a0, a1, a2, a3⟩, ?_, ?_⟩
  · exact Pieces.cv (off := 0) (L := [[eB a0], [eI a1], [eI a2], [eI a3]]) ⟨c0, c1, c2, c3, Nat.le_of_eq hl⟩
  · trivial
theorem rd_facts : RdT Try.prog 30 1 (fun l : List DFact => [AVal.ls l.length (l.flatMap eFact)]) (fun l n => l.length ≤ n) := by
  intro H enc w fuel cs x h
  obtain ⟨hb, l, h1, h2, h3⟩ := rd_slice rd_fact Try.underlying30 (by kernel_rfl) (by decide) eFact_len H enc w fuel cs x h
  exact ⟨hb, l, h1, by omega⟩

/-- An argument that is a struct. -/
theorem arg_agg {α : Type} {t : TypeId} {b : Nat} {f : α → List AVal} {Q : α → Nat → Prop} {H : Type} {enc : TypeId × Value → H} {W : World} {v : Value} {d : DataW H} {ps : List MemPlace} (R : RdT Try.prog t b f Q) (hv : ∃ cs, v = .agg cs) (h : DataW.Trod enc Try.prog W 0 (fun _ => true) true t v d ps) :
    ∃ a : α, VR W h00 (.agg (f a)) v ∧ Q a (bulk d) := by
  obtain ⟨cs, rfl⟩ := hv
  obtain ⟨fuel, h⟩ := h
  obtain ⟨_, a, h1, h2⟩ := R H enc W fuel _ _ h
  have e : (Value.agg cs).cells.toList = cs.toList := rfl
  rw [e] at h1
  exact ⟨a, .agg _ _ (by simpa using h1.1) (fun i g1 g2 => by have := h1.2 i g1 (by simpa using g2); rw [Array.getElem_toList] at this; exact this), h2⟩
/-- An argument that is a slice. -/
theorem arg_one {α : Type} {t : TypeId} {b : Nat} {f : α → AVal} {Q : α → Nat → Prop} {H : Type} {enc : TypeId × Value → H} {W : World} {v : Value} {d : DataW H} {ps : List MemPlace} (R : RdT Try.prog t b (fun a => [f a]) Q) (hv : v.cells.toList = [v]) (h : DataW.Trod enc Try.prog W 0 (fun _ => true) true t v d ps) :
    ∃ a : α, VR W h00 (f a) v ∧ Q a (bulk d) := by
  obtain ⟨fuel, h⟩ := h
  obtain ⟨_, a, h1, h2⟩ := R H enc W fuel _ _ h
  rw [hv] at h1
  exact ⟨a, h1.2 0 (by simp) (by simp), h2⟩
end Go.Proofs.Ytilanageangegaa

/- What every statement's row needs. -/
set_option linter.unusedVariables false
namespace Go.Proofs.Ytilanageangegaa
open Go.ChangeShapes Go.WideShapes Go.ChangeAt Go.RowKit Go.Ab

set_option maxRecDepth 100000 in
theorem own_knob : ownKnob Try.prog.godebug = none := by kernel_rfl
set_option maxRecDepth 100000 in
theorem laid_out : laidOutB Try.prog = true := by kernel_rfl
theorem ok_agg {P : Program} {W : World} {r : Reach} {base : Nat} {t : TypeId} {v : Value} {fs : Array Field} (ht : P.underlying t = some (.struct fs)) (h : Value.okWide P W r base t v) : ∃ cs, v = .agg cs := by
  unfold Value.okWide at h
  rw [ht] at h
  obtain ⟨cs, e, _⟩ := h
  exact ⟨cs, e⟩
theorem Ev.below {W W' : World} (e : Ev h00 W h00 W') : Below W.heap.size W W' := ⟨e.os, e.tape, e.output, e.size, fun k hk => (e.old k hk rfl).2⟩
theorem trod_less {H : Type} {enc : TypeId × Value → H} {W : World} {t : TypeId} {v : Value} {d : DataW H} {p : List MemPlace} (h : DataW.Trod enc Try.prog W 0 (fun _ => true) true t v d p) : ∀ x ∈ p, x.block < W.heap.size := by
  obtain ⟨m, hm⟩ := h
  exact DataW.trod_lt m _ _ _ hm
end Go.Proofs.Ytilanageangegaa
