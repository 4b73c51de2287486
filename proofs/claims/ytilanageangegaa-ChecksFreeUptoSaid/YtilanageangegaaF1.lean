/- Walks and laws for LawFree (1): T1, Dfs, WDom1, WDom2, WSl, WDom3, WDom4, Chk, Chk2, Chk2b, Chk3, WDom5, WDom6, Ab11, WSl2, Rw, WRef1. No statement of the seat is proved here. -/
import Derived.Test.YtilanageangegaaF0
import Derived.Laws.Cover3
import Derived.Laws.Slices
import Derived.Laws.Small

namespace Go.Proofs.Ytilanageangegaa
open Go.Ab

def next (e : DTerm) : List Int := if e.op = 1 then [e.to] else if e.op = 2 then [e.to, e.els] else []

set_option maxRecDepth 10000 in
theorem next_spec (e : DTerm) (h : AHeap) : Sp Try.prog 83 [.agg (eTerm e)] h (fun x h' => x = eIs (next e) ∧ h' = h) := by
  refine Sp.of Try.func83 rfl rfl (by show 1 ≤ 17; decide) ?_
  (repeat (first | refine AC.seq ?_ | refine AC.region ?_ | refine AC.block ?_ | refine AOps.nil ?_ | refine AC.skip ?_ | refine AC.exit ?_ | (refine AOps.step rfl rfl ?_; (first | refine AOp.of_run (ARun.mvV (.inl rfl) rfl) ?_ | refine AOp.of_run (ARun.mvV (.inr rfl) rfl) ?_ | refine AOp.of_run (ARun.mvL (.inl rfl) rfl) ?_ | refine AOp.of_run (ARun.mvL (.inr rfl) rfl) ?_ | refine AOp.of_run (ARun.mvP (.inl rfl) rfl) ?_ | refine AOp.of_run (ARun.mvP (.inr rfl) rfl) ?_ | refine AOp.of_run (ARun.mvA (.inl rfl) rfl) ?_ | refine AOp.of_run (ARun.mvA (.inr rfl) rfl) ?_ | refine AOp.of_run (ARun.mvT (.inl rfl) rfl) ?_ | refine AOp.of_run (ARun.mvT (.inr rfl) rfl) ?_ | refine AOp.of_run (ARun.move rfl) ?_ | refine AOp.of_run (ARun.assign rfl) ?_ | refine AOp.of_run (ARun.fieldAddrL rfl rfl) ?_ | refine AOp.of_run (ARun.fieldAddr rfl rfl) ?_ | refine AOp.of_run (ARun.loadL rfl rfl rfl) ?_ | refine AOp.of_run (ARun.loadNL rfl rfl rfl) ?_ | refine AOp.of_run (ARun.lenL rfl rfl) ?_ | refine AOp.of_run (ARun.lenV rfl rfl) ?_ | refine AOp.of_run (ARun.pickT rfl rfl) ?_ | refine AOp.of_run (ARun.pickF rfl rfl) ?_ | refine AOp.of_run (ARun.pickB rfl rfl rfl rfl) ?_ | refine AOp.of_run (ARun.not rfl rfl) ?_ | refine AOp.of_run (ARun.add rfl rfl rfl) ?_ | refine AOp.of_run (ARun.sub rfl rfl rfl) ?_ | refine AOp.of_run (ARun.eql rfl rfl rfl) ?_ | refine AOp.of_run (ARun.neq rfl rfl rfl) ?_ | refine AOp.of_run (ARun.lss rfl rfl rfl) ?_ | refine AOp.of_run (ARun.leq rfl rfl rfl) ?_ | refine AOp.of_run (ARun.gtr rfl rfl rfl) ?_ | refine AOp.of_run (ARun.geq rfl rfl rfl) ?_ | refine AOp.of_run (ARun.build rfl) ?_ | refine AOp.of_run (ARun.extract rfl rfl rfl) ?_ | refine AOp.of_run (ARun.nilCheck rfl rfl) ?_ | refine AOp.of_run (ARun.load rfl rfl (hset_same _ _ _) rfl) ?_ | refine AOp.of_run (ARun.loadN rfl rfl (hset_same _ _ _) rfl) ?_ | refine AOp.of_run (ARun.makeInterface rfl (by kernel_rfl) rfl rfl) ?_ | refine AOp.of_run (ARun.mul rfl rfl rfl) ?_ | refine AOp.of_run (ARun.min rfl rfl rfl) ?_ | refine AOp.of_run (ARun.convert rfl (by kernel_rfl) (by kernel_rfl) rfl) ?_ | refine AOp.boxL rfl rfl ?_ | refine AOp.buildSlice rfl ?_))))
  (repeat (first | refine AC.seq ?_ | refine AC.block ?_ | refine AC.skip ?_)); refine AC.cond rfl (fun hc => ?_) (fun hc => ?_)
  · (repeat (first | refine AC.seq ?_ | refine AC.region ?_ | refine AC.block ?_ | refine AOps.nil ?_ | refine AC.skip ?_ | refine AC.exit ?_ | (refine AOps.step rfl rfl ?_; (first | refine AOp.of_run (ARun.mvV (.inl rfl) rfl) ?_ | refine AOp.of_run (ARun.mvV (.inr rfl) rfl) ?_ | refine AOp.of_run (ARun.mvL (.inl rfl) rfl) ?_ | refine AOp.of_run (ARun.mvL (.inr rfl) rfl) ?_ | refine AOp.of_run (ARun.mvP (.inl rfl) rfl) ?_ | refine AOp.of_run (ARun.mvP (.inr rfl) rfl) ?_ | refine AOp.of_run (ARun.mvA (.inl rfl) rfl) ?_ | refine AOp.of_run (ARun.mvA (.inr rfl) rfl) ?_ | refine AOp.of_run (ARun.mvT (.inl rfl) rfl) ?_ | refine AOp.of_run (ARun.mvT (.inr rfl) rfl) ?_ | refine AOp.of_run (ARun.move rfl) ?_ | refine AOp.of_run (ARun.assign rfl) ?_ | refine AOp.of_run (ARun.fieldAddrL rfl rfl) ?_ | refine AOp.of_run (ARun.fieldAddr rfl rfl) ?_ | refine AOp.of_run (ARun.loadL rfl rfl rfl) ?_ | refine AOp.of_run (ARun.loadNL rfl rfl rfl) ?_ | refine AOp.of_run (ARun.lenL rfl rfl) ?_ | refine AOp.of_run (ARun.lenV rfl rfl) ?_ | refine AOp.of_run (ARun.pickT rfl rfl) ?_ | refine AOp.of_run (ARun.pickF rfl rfl) ?_ | refine AOp.of_run (ARun.pickB rfl rfl rfl rfl) ?_ | refine AOp.of_run (ARun.not rfl rfl) ?_ | refine AOp.of_run (ARun.add rfl rfl rfl) ?_ | refine AOp.of_run (ARun.sub rfl rfl rfl) ?_ | refine AOp.of_run (ARun.eql rfl rfl rfl) ?_ | refine AOp.of_run (ARun.neq rfl rfl rfl) ?_ | refine AOp.of_run (ARun.lss rfl rfl rfl) ?_ | refine AOp.of_run (ARun.leq rfl rfl rfl) ?_ | refine AOp.of_run (ARun.gtr rfl rfl rfl) ?_ | refine AOp.of_run (ARun.geq rfl rfl rfl) ?_ | refine AOp.of_run (ARun.build rfl) ?_ | refine AOp.of_run (ARun.extract rfl rfl rfl) ?_ | refine AOp.of_run (ARun.nilCheck rfl rfl) ?_ | refine AOp.of_run (ARun.load rfl rfl (hset_same _ _ _) rfl) ?_ | refine AOp.of_run (ARun.loadN rfl rfl (hset_same _ _ _) rfl) ?_ | refine AOp.of_run (ARun.makeInterface rfl (by kernel_rfl) rfl rfl) ?_ | refine AOp.of_run (ARun.mul rfl rfl rfl) ?_ | refine AOp.of_run (ARun.min rfl rfl rfl) ?_ | refine AOp.of_run (ARun.convert rfl (by kernel_rfl) (by kernel_rfl) rfl) ?_ | refine AOp.boxL rfl rfl ?_ | refine AOp.buildSlice rfl ?_))))
    refine AC.ret (ARes.one rfl (RV.tmp' rfl) ⟨?_, rfl⟩)
    simp at hc
    simp [next, hc]; rfl
  · (repeat (first | refine AC.seq ?_ | refine AC.region ?_ | refine AC.block ?_ | refine AOps.nil ?_ | refine AC.skip ?_ | refine AC.exit ?_ | (refine AOps.step rfl rfl ?_; (first | refine AOp.of_run (ARun.mvV (.inl rfl) rfl) ?_ | refine AOp.of_run (ARun.mvV (.inr rfl) rfl) ?_ | refine AOp.of_run (ARun.mvL (.inl rfl) rfl) ?_ | refine AOp.of_run (ARun.mvL (.inr rfl) rfl) ?_ | refine AOp.of_run (ARun.mvP (.inl rfl) rfl) ?_ | refine AOp.of_run (ARun.mvP (.inr rfl) rfl) ?_ | refine AOp.of_run (ARun.mvA (.inl rfl) rfl) ?_ | refine AOp.of_run (ARun.mvA (.inr rfl) rfl) ?_ | refine AOp.of_run (ARun.mvT (.inl rfl) rfl) ?_ | refine AOp.of_run (ARun.mvT (.inr rfl) rfl) ?_ | refine AOp.of_run (ARun.move rfl) ?_ | refine AOp.of_run (ARun.assign rfl) ?_ | refine AOp.of_run (ARun.fieldAddrL rfl rfl) ?_ | refine AOp.of_run (ARun.fieldAddr rfl rfl) ?_ | refine AOp.of_run (ARun.loadL rfl rfl rfl) ?_ | refine AOp.of_run (ARun.loadNL rfl rfl rfl) ?_ | refine AOp.of_run (ARun.lenL rfl rfl) ?_ | refine AOp.of_run (ARun.lenV rfl rfl) ?_ | refine AOp.of_run (ARun.pickT rfl rfl) ?_ | refine AOp.of_run (ARun.pickF rfl rfl) ?_ | refine AOp.of_run (ARun.pickB rfl rfl rfl rfl) ?_ | refine AOp.of_run (ARun.not rfl rfl) ?_ | refine AOp.of_run (ARun.add rfl rfl rfl) ?_ | refine AOp.of_run (ARun.sub rfl rfl rfl) ?_ | refine AOp.of_run (ARun.eql rfl rfl rfl) ?_ | refine AOp.of_run (ARun.neq rfl rfl rfl) ?_ | refine AOp.of_run (ARun.lss rfl rfl rfl) ?_ | refine AOp.of_run (ARun.leq rfl rfl rfl) ?_ | refine AOp.of_run (ARun.gtr rfl rfl rfl) ?_ | refine AOp.of_run (ARun.geq rfl rfl rfl) ?_ | refine AOp.of_run (ARun.build rfl) ?_ | refine AOp.of_run (ARun.extract rfl rfl rfl) ?_ | refine AOp.of_run (ARun.nilCheck rfl rfl) ?_ | refine AOp.of_run (ARun.load rfl rfl (hset_same _ _ _) rfl) ?_ | refine AOp.of_run (ARun.loadN rfl rfl (hset_same _ _ _) rfl) ?_ | refine AOp.of_run (ARun.makeInterface rfl (by kernel_rfl) rfl rfl) ?_ | refine AOp.of_run (ARun.mul rfl rfl rfl) ?_ | refine AOp.of_run (ARun.min rfl rfl rfl) ?_ | refine AOp.of_run (ARun.convert rfl (by kernel_rfl) (by kernel_rfl) rfl) ?_ | refine AOp.boxL rfl rfl ?_ | refine AOp.buildSlice rfl ?_))))
    (repeat (first | refine AC.seq ?_ | refine AC.block ?_ | refine AC.skip ?_)); refine AC.cond rfl (fun hc => ?_) (fun hc => ?_)
    · rename_i hd
      (repeat (first | refine AC.seq ?_ | refine AC.region ?_ | refine AC.block ?_ | refine AOps.nil ?_ | refine AC.skip ?_ | refine AC.exit ?_ | (refine AOps.step rfl rfl ?_; (first | refine AOp.of_run (ARun.mvV (.inl rfl) rfl) ?_ | refine AOp.of_run (ARun.mvV (.inr rfl) rfl) ?_ | refine AOp.of_run (ARun.mvL (.inl rfl) rfl) ?_ | refine AOp.of_run (ARun.mvL (.inr rfl) rfl) ?_ | refine AOp.of_run (ARun.mvP (.inl rfl) rfl) ?_ | refine AOp.of_run (ARun.mvP (.inr rfl) rfl) ?_ | refine AOp.of_run (ARun.mvA (.inl rfl) rfl) ?_ | refine AOp.of_run (ARun.mvA (.inr rfl) rfl) ?_ | refine AOp.of_run (ARun.mvT (.inl rfl) rfl) ?_ | refine AOp.of_run (ARun.mvT (.inr rfl) rfl) ?_ | refine AOp.of_run (ARun.move rfl) ?_ | refine AOp.of_run (ARun.assign rfl) ?_ | refine AOp.of_run (ARun.fieldAddrL rfl rfl) ?_ | refine AOp.of_run (ARun.fieldAddr rfl rfl) ?_ | refine AOp.of_run (ARun.loadL rfl rfl rfl) ?_ | refine AOp.of_run (ARun.loadNL rfl rfl rfl) ?_ | refine AOp.of_run (ARun.lenL rfl rfl) ?_ | refine AOp.of_run (ARun.lenV rfl rfl) ?_ | refine AOp.of_run (ARun.pickT rfl rfl) ?_ | refine AOp.of_run (ARun.pickF rfl rfl) ?_ | refine AOp.of_run (ARun.pickB rfl rfl rfl rfl) ?_ | refine AOp.of_run (ARun.not rfl rfl) ?_ | refine AOp.of_run (ARun.add rfl rfl rfl) ?_ | refine AOp.of_run (ARun.sub rfl rfl rfl) ?_ | refine AOp.of_run (ARun.eql rfl rfl rfl) ?_ | refine AOp.of_run (ARun.neq rfl rfl rfl) ?_ | refine AOp.of_run (ARun.lss rfl rfl rfl) ?_ | refine AOp.of_run (ARun.leq rfl rfl rfl) ?_ | refine AOp.of_run (ARun.gtr rfl rfl rfl) ?_ | refine AOp.of_run (ARun.geq rfl rfl rfl) ?_ | refine AOp.of_run (ARun.build rfl) ?_ | refine AOp.of_run (ARun.extract rfl rfl rfl) ?_ | refine AOp.of_run (ARun.nilCheck rfl rfl) ?_ | refine AOp.of_run (ARun.load rfl rfl (hset_same _ _ _) rfl) ?_ | refine AOp.of_run (ARun.loadN rfl rfl (hset_same _ _ _) rfl) ?_ | refine AOp.of_run (ARun.makeInterface rfl (by kernel_rfl) rfl rfl) ?_ | refine AOp.of_run (ARun.mul rfl rfl rfl) ?_ | refine AOp.of_run (ARun.min rfl rfl rfl) ?_ | refine AOp.of_run (ARun.convert rfl (by kernel_rfl) (by kernel_rfl) rfl) ?_ | refine AOp.boxL rfl rfl ?_ | refine AOp.buildSlice rfl ?_))))
      refine AC.ret (ARes.one rfl (RV.tmp' rfl) ⟨?_, rfl⟩)
      simp at hc hd
      simp [next, hc]; rfl
    · rename_i hd
      (repeat (first | refine AC.seq ?_ | refine AC.region ?_ | refine AC.block ?_ | refine AOps.nil ?_ | refine AC.skip ?_ | refine AC.exit ?_ | (refine AOps.step rfl rfl ?_; (first | refine AOp.of_run (ARun.mvV (.inl rfl) rfl) ?_ | refine AOp.of_run (ARun.mvV (.inr rfl) rfl) ?_ | refine AOp.of_run (ARun.mvL (.inl rfl) rfl) ?_ | refine AOp.of_run (ARun.mvL (.inr rfl) rfl) ?_ | refine AOp.of_run (ARun.mvP (.inl rfl) rfl) ?_ | refine AOp.of_run (ARun.mvP (.inr rfl) rfl) ?_ | refine AOp.of_run (ARun.mvA (.inl rfl) rfl) ?_ | refine AOp.of_run (ARun.mvA (.inr rfl) rfl) ?_ | refine AOp.of_run (ARun.mvT (.inl rfl) rfl) ?_ | refine AOp.of_run (ARun.mvT (.inr rfl) rfl) ?_ | refine AOp.of_run (ARun.move rfl) ?_ | refine AOp.of_run (ARun.assign rfl) ?_ | refine AOp.of_run (ARun.fieldAddrL rfl rfl) ?_ | refine AOp.of_run (ARun.fieldAddr rfl rfl) ?_ | refine AOp.of_run (ARun.loadL rfl rfl rfl) ?_ | refine AOp.of_run (ARun.loadNL rfl rfl rfl) ?_ | refine AOp.of_run (ARun.lenL rfl rfl) ?_ | refine AOp.of_run (ARun.lenV rfl rfl) ?_ | refine AOp.of_run (ARun.pickT rfl rfl) ?_ | refine AOp.of_run (ARun.pickF rfl rfl) ?_ | refine AOp.of_run (ARun.pickB rfl rfl rfl rfl) ?_ | refine AOp.of_run (ARun.not rfl rfl) ?_ | refine AOp.of_run (ARun.add rfl rfl rfl) ?_ | refine AOp.of_run (ARun.sub rfl rfl rfl) ?_ | refine AOp.of_run (ARun.eql rfl rfl rfl) ?_ | refine AOp.of_run (ARun.neq rfl rfl rfl) ?_ | refine AOp.of_run (ARun.lss rfl rfl rfl) ?_ | refine AOp.of_run (ARun.leq rfl rfl rfl) ?_ | refine AOp.of_run (ARun.gtr rfl rfl rfl) ?_ | refine AOp.of_run (ARun.geq rfl rfl rfl) ?_ | refine AOp.of_run (ARun.build rfl) ?_ | refine AOp.of_run (ARun.extract rfl rfl rfl) ?_ | refine AOp.of_run (ARun.nilCheck rfl rfl) ?_ | refine AOp.of_run (ARun.load rfl rfl (hset_same _ _ _) rfl) ?_ | refine AOp.of_run (ARun.loadN rfl rfl (hset_same _ _ _) rfl) ?_ | refine AOp.of_run (ARun.makeInterface rfl (by kernel_rfl) rfl rfl) ?_ | refine AOp.of_run (ARun.mul rfl rfl rfl) ?_ | refine AOp.of_run (ARun.min rfl rfl rfl) ?_ | refine AOp.of_run (ARun.convert rfl (by kernel_rfl) (by kernel_rfl) rfl) ?_ | refine AOp.boxL rfl rfl ?_ | refine AOp.buildSlice rfl ?_))))
      refine AC.ret (ARes.le (Le.slot (d := 2) (x := eIs []) fun w v r => ?_) (ARes.one rfl (RV.tmp' rfl) ⟨?_, rfl⟩))
      · cases r; exact .ls0 _ _
      · simp at hc hd
        simp [next, hc, hd]; rfl

def succL (f : DIr) : List (List Int) := f.parts.map fun p => next p.end_

set_option maxRecDepth 10000 in
theorem Succ_spec (f : DIr) (h : AHeap) (hn : f.parts.length ≤ 100000) : Sp Try.prog 59 [.agg (eIr f)] h (fun x h' => x = eIss (succL f) ∧ h' = h) := by
  refine Sp.of Try.func59 rfl rfl (by show 1 ≤ 21; decide) ?_
  (repeat (first | refine AC.seq ?_ | refine AC.region ?_ | refine AC.block ?_ | refine AOps.nil ?_ | refine AC.skip ?_ | refine AC.exit ?_ | (refine AOps.step rfl rfl ?_; (first | refine AOp.of_run (ARun.mvV (.inl rfl) rfl) ?_ | refine AOp.of_run (ARun.mvV (.inr rfl) rfl) ?_ | refine AOp.of_run (ARun.mvL (.inl rfl) rfl) ?_ | refine AOp.of_run (ARun.mvL (.inr rfl) rfl) ?_ | refine AOp.of_run (ARun.mvP (.inl rfl) rfl) ?_ | refine AOp.of_run (ARun.mvP (.inr rfl) rfl) ?_ | refine AOp.of_run (ARun.mvA (.inl rfl) rfl) ?_ | refine AOp.of_run (ARun.mvA (.inr rfl) rfl) ?_ | refine AOp.of_run (ARun.mvT (.inl rfl) rfl) ?_ | refine AOp.of_run (ARun.mvT (.inr rfl) rfl) ?_ | refine AOp.of_run (ARun.move rfl) ?_ | refine AOp.of_run (ARun.assign rfl) ?_ | refine AOp.of_run (ARun.fieldAddrL rfl rfl) ?_ | refine AOp.of_run (ARun.fieldAddr rfl rfl) ?_ | refine AOp.of_run (ARun.loadL rfl rfl rfl) ?_ | refine AOp.of_run (ARun.loadNL rfl rfl rfl) ?_ | refine AOp.of_run (ARun.lenL rfl rfl) ?_ | refine AOp.of_run (ARun.lenV rfl rfl) ?_ | refine AOp.of_run (ARun.pickT rfl rfl) ?_ | refine AOp.of_run (ARun.pickF rfl rfl) ?_ | refine AOp.of_run (ARun.pickB rfl rfl rfl rfl) ?_ | refine AOp.of_run (ARun.not rfl rfl) ?_ | refine AOp.of_run (ARun.add rfl rfl rfl) ?_ | refine AOp.of_run (ARun.sub rfl rfl rfl) ?_ | refine AOp.of_run (ARun.eql rfl rfl rfl) ?_ | refine AOp.of_run (ARun.neq rfl rfl rfl) ?_ | refine AOp.of_run (ARun.lss rfl rfl rfl) ?_ | refine AOp.of_run (ARun.leq rfl rfl rfl) ?_ | refine AOp.of_run (ARun.gtr rfl rfl rfl) ?_ | refine AOp.of_run (ARun.geq rfl rfl rfl) ?_ | refine AOp.of_run (ARun.build rfl) ?_ | refine AOp.of_run (ARun.extract rfl rfl rfl) ?_ | refine AOp.of_run (ARun.nilCheck rfl rfl) ?_ | refine AOp.of_run (ARun.load rfl rfl (hset_same _ _ _) rfl) ?_ | refine AOp.of_run (ARun.loadN rfl rfl (hset_same _ _ _) rfl) ?_ | refine AOp.of_run (ARun.makeInterface rfl (by kernel_rfl) rfl rfl) ?_ | refine AOp.of_run (ARun.mul rfl rfl rfl) ?_ | refine AOp.of_run (ARun.min rfl rfl rfl) ?_ | refine AOp.of_run (ARun.convert rfl (by kernel_rfl) (by kernel_rfl) rfl) ?_ | refine AOp.boxL rfl rfl ?_ | refine AOp.buildSlice rfl ?_))))
  refine AC.loop (fun m τ h' => ∃ k x, k ≤ f.parts.length ∧ m = f.parts.length - k ∧ Slots τ [(3, x), (7, eParts f.parts), (8, eI f.parts.length), (9, eI k)] ∧ Own h 53 1 k ((f.parts.take k).map fun p => eIs (next p.end_)) x h') f.parts.length ?_ ?_
  · exact ⟨0, _, Nat.zero_le _, rfl, ⟨rfl, rfl, rfl, rfl, trivial⟩, Own.nil h 53 1⟩
  rintro m τ h' ⟨k, x, hk, rfl, hs, ho⟩
  obtain ⟨t0, rfl⟩ := hs.open_
  (repeat (first | refine AC.seq ?_ | refine AC.region ?_ | refine AC.block ?_ | refine AOps.nil ?_ | refine AC.skip ?_ | refine AC.exit ?_ | (refine AOps.step rfl rfl ?_; (first | refine AOp.of_run (ARun.mvV (.inl rfl) rfl) ?_ | refine AOp.of_run (ARun.mvV (.inr rfl) rfl) ?_ | refine AOp.of_run (ARun.mvL (.inl rfl) rfl) ?_ | refine AOp.of_run (ARun.mvL (.inr rfl) rfl) ?_ | refine AOp.of_run (ARun.mvP (.inl rfl) rfl) ?_ | refine AOp.of_run (ARun.mvP (.inr rfl) rfl) ?_ | refine AOp.of_run (ARun.mvA (.inl rfl) rfl) ?_ | refine AOp.of_run (ARun.mvA (.inr rfl) rfl) ?_ | refine AOp.of_run (ARun.mvT (.inl rfl) rfl) ?_ | refine AOp.of_run (ARun.mvT (.inr rfl) rfl) ?_ | refine AOp.of_run (ARun.move rfl) ?_ | refine AOp.of_run (ARun.assign rfl) ?_ | refine AOp.of_run (ARun.fieldAddrL rfl rfl) ?_ | refine AOp.of_run (ARun.fieldAddr rfl rfl) ?_ | refine AOp.of_run (ARun.loadL rfl rfl rfl) ?_ | refine AOp.of_run (ARun.loadNL rfl rfl rfl) ?_ | refine AOp.of_run (ARun.lenL rfl rfl) ?_ | refine AOp.of_run (ARun.lenV rfl rfl) ?_ | refine AOp.of_run (ARun.pickT rfl rfl) ?_ | refine AOp.of_run (ARun.pickF rfl rfl) ?_ | refine AOp.of_run (ARun.pickB rfl rfl rfl rfl) ?_ | refine AOp.of_run (ARun.not rfl rfl) ?_ | refine AOp.of_run (ARun.add rfl rfl rfl) ?_ | refine AOp.of_run (ARun.sub rfl rfl rfl) ?_ | refine AOp.of_run (ARun.eql rfl rfl rfl) ?_ | refine AOp.of_run (ARun.neq rfl rfl rfl) ?_ | refine AOp.of_run (ARun.lss rfl rfl rfl) ?_ | refine AOp.of_run (ARun.leq rfl rfl rfl) ?_ | refine AOp.of_run (ARun.gtr rfl rfl rfl) ?_ | refine AOp.of_run (ARun.geq rfl rfl rfl) ?_ | refine AOp.of_run (ARun.build rfl) ?_ | refine AOp.of_run (ARun.extract rfl rfl rfl) ?_ | refine AOp.of_run (ARun.nilCheck rfl rfl) ?_ | refine AOp.of_run (ARun.load rfl rfl (hset_same _ _ _) rfl) ?_ | refine AOp.of_run (ARun.loadN rfl rfl (hset_same _ _ _) rfl) ?_ | refine AOp.of_run (ARun.makeInterface rfl (by kernel_rfl) rfl rfl) ?_ | refine AOp.of_run (ARun.mul rfl rfl rfl) ?_ | refine AOp.of_run (ARun.min rfl rfl rfl) ?_ | refine AOp.of_run (ARun.convert rfl (by kernel_rfl) (by kernel_rfl) rfl) ?_ | refine AOp.boxL rfl rfl ?_ | refine AOp.buildSlice rfl ?_))))
  (repeat (first | refine AC.seq ?_ | refine AC.block ?_ | refine AC.skip ?_)); refine AC.cond rfl (fun hc => ?_) (fun hc => ?_)
  · have hlt : k < f.parts.length := by simpa using hc
    (repeat (first | refine AC.seq ?_ | refine AC.region ?_ | refine AC.block ?_ | refine AOps.nil ?_ | refine AC.skip ?_ | refine AC.exit ?_ | (refine AOps.step rfl rfl ?_; (first | refine AOp.of_run (ARun.mvV (.inl rfl) rfl) ?_ | refine AOp.of_run (ARun.mvV (.inr rfl) rfl) ?_ | refine AOp.of_run (ARun.mvL (.inl rfl) rfl) ?_ | refine AOp.of_run (ARun.mvL (.inr rfl) rfl) ?_ | refine AOp.of_run (ARun.mvP (.inl rfl) rfl) ?_ | refine AOp.of_run (ARun.mvP (.inr rfl) rfl) ?_ | refine AOp.of_run (ARun.mvA (.inl rfl) rfl) ?_ | refine AOp.of_run (ARun.mvA (.inr rfl) rfl) ?_ | refine AOp.of_run (ARun.mvT (.inl rfl) rfl) ?_ | refine AOp.of_run (ARun.mvT (.inr rfl) rfl) ?_ | refine AOp.of_run (ARun.move rfl) ?_ | refine AOp.of_run (ARun.assign rfl) ?_ | refine AOp.of_run (ARun.fieldAddrL rfl rfl) ?_ | refine AOp.of_run (ARun.fieldAddr rfl rfl) ?_ | refine AOp.of_run (ARun.loadL rfl rfl rfl) ?_ | refine AOp.of_run (ARun.loadNL rfl rfl rfl) ?_ | refine AOp.of_run (ARun.lenL rfl rfl) ?_ | refine AOp.of_run (ARun.lenV rfl rfl) ?_ | refine AOp.of_run (ARun.pickT rfl rfl) ?_ | refine AOp.of_run (ARun.pickF rfl rfl) ?_ | refine AOp.of_run (ARun.pickB rfl rfl rfl rfl) ?_ | refine AOp.of_run (ARun.not rfl rfl) ?_ | refine AOp.of_run (ARun.add rfl rfl rfl) ?_ | refine AOp.of_run (ARun.sub rfl rfl rfl) ?_ | refine AOp.of_run (ARun.eql rfl rfl rfl) ?_ | refine AOp.of_run (ARun.neq rfl rfl rfl) ?_ | refine AOp.of_run (ARun.lss rfl rfl rfl) ?_ | refine AOp.of_run (ARun.leq rfl rfl rfl) ?_ | refine AOp.of_run (ARun.gtr rfl rfl rfl) ?_ | refine AOp.of_run (ARun.geq rfl rfl rfl) ?_ | refine AOp.of_run (ARun.build rfl) ?_ | refine AOp.of_run (ARun.extract rfl rfl rfl) ?_ | refine AOp.of_run (ARun.nilCheck rfl rfl) ?_ | refine AOp.of_run (ARun.load rfl rfl (hset_same _ _ _) rfl) ?_ | refine AOp.of_run (ARun.loadN rfl rfl (hset_same _ _ _) rfl) ?_ | refine AOp.of_run (ARun.makeInterface rfl (by kernel_rfl) rfl rfl) ?_ | refine AOp.of_run (ARun.mul rfl rfl rfl) ?_ | refine AOp.of_run (ARun.min rfl rfl rfl) ?_ | refine AOp.of_run (ARun.convert rfl (by kernel_rfl) (by kernel_rfl) rfl) ?_ | refine AOp.boxL rfl rfl ?_ | refine AOp.buildSlice rfl ?_))))
    refine AOps.step rfl rfl (AOp.of_run (ARun.indexAddrL rfl rfl rfl (by omega) (by omega)) ?_)
    refine AOps.step rfl rfl (AOp.of_run (ARun.loadNL rfl rfl (rdc_flatMap ePart_len hlt)) ?_)
    refine AOps.step rfl rfl (AOp.alloc rfl fun b hb => ?_)
    refine AOps.step rfl rfl (AOp.store rfl rfl (hset_same _ _ _) rfl ?_)
    refine AOps.le (Le.freezeNew (d := 5) hb rfl) ?_
    (repeat (first | refine AC.seq ?_ | refine AC.region ?_ | refine AC.block ?_ | refine AOps.nil ?_ | refine AC.skip ?_ | refine AC.exit ?_ | (refine AOps.step rfl rfl ?_; (first | refine AOp.of_run (ARun.mvV (.inl rfl) rfl) ?_ | refine AOp.of_run (ARun.mvV (.inr rfl) rfl) ?_ | refine AOp.of_run (ARun.mvL (.inl rfl) rfl) ?_ | refine AOp.of_run (ARun.mvL (.inr rfl) rfl) ?_ | refine AOp.of_run (ARun.mvP (.inl rfl) rfl) ?_ | refine AOp.of_run (ARun.mvP (.inr rfl) rfl) ?_ | refine AOp.of_run (ARun.mvA (.inl rfl) rfl) ?_ | refine AOp.of_run (ARun.mvA (.inr rfl) rfl) ?_ | refine AOp.of_run (ARun.mvT (.inl rfl) rfl) ?_ | refine AOp.of_run (ARun.mvT (.inr rfl) rfl) ?_ | refine AOp.of_run (ARun.move rfl) ?_ | refine AOp.of_run (ARun.assign rfl) ?_ | refine AOp.of_run (ARun.fieldAddrL rfl rfl) ?_ | refine AOp.of_run (ARun.fieldAddr rfl rfl) ?_ | refine AOp.of_run (ARun.loadL rfl rfl rfl) ?_ | refine AOp.of_run (ARun.loadNL rfl rfl rfl) ?_ | refine AOp.of_run (ARun.lenL rfl rfl) ?_ | refine AOp.of_run (ARun.lenV rfl rfl) ?_ | refine AOp.of_run (ARun.pickT rfl rfl) ?_ | refine AOp.of_run (ARun.pickF rfl rfl) ?_ | refine AOp.of_run (ARun.pickB rfl rfl rfl rfl) ?_ | refine AOp.of_run (ARun.not rfl rfl) ?_ | refine AOp.of_run (ARun.add rfl rfl rfl) ?_ | refine AOp.of_run (ARun.sub rfl rfl rfl) ?_ | refine AOp.of_run (ARun.eql rfl rfl rfl) ?_ | refine AOp.of_run (ARun.neq rfl rfl rfl) ?_ | refine AOp.of_run (ARun.lss rfl rfl rfl) ?_ | refine AOp.of_run (ARun.leq rfl rfl rfl) ?_ | refine AOp.of_run (ARun.gtr rfl rfl rfl) ?_ | refine AOp.of_run (ARun.geq rfl rfl rfl) ?_ | refine AOp.of_run (ARun.build rfl) ?_ | refine AOp.of_run (ARun.extract rfl rfl rfl) ?_ | refine AOp.of_run (ARun.nilCheck rfl rfl) ?_ | refine AOp.of_run (ARun.load rfl rfl (hset_same _ _ _) rfl) ?_ | refine AOp.of_run (ARun.loadN rfl rfl (hset_same _ _ _) rfl) ?_ | refine AOp.of_run (ARun.makeInterface rfl (by kernel_rfl) rfl rfl) ?_ | refine AOp.of_run (ARun.mul rfl rfl rfl) ?_ | refine AOp.of_run (ARun.min rfl rfl rfl) ?_ | refine AOp.of_run (ARun.convert rfl (by kernel_rfl) (by kernel_rfl) rfl) ?_ | refine AOp.boxL rfl rfl ?_ | refine AOp.buildSlice rfl ?_))))
    refine AOps.step rfl rfl (AOp.call_ rfl rfl ?_)
    refine (next_spec _ _).mono ?_
    rintro _ _ ⟨rfl, rfl⟩
    (repeat (first | refine AC.seq ?_ | refine AC.region ?_ | refine AC.block ?_ | refine AOps.nil ?_ | refine AC.skip ?_ | refine AC.exit ?_ | (refine AOps.step rfl rfl ?_; (first | refine AOp.of_run (ARun.mvV (.inl rfl) rfl) ?_ | refine AOp.of_run (ARun.mvV (.inr rfl) rfl) ?_ | refine AOp.of_run (ARun.mvL (.inl rfl) rfl) ?_ | refine AOp.of_run (ARun.mvL (.inr rfl) rfl) ?_ | refine AOp.of_run (ARun.mvP (.inl rfl) rfl) ?_ | refine AOp.of_run (ARun.mvP (.inr rfl) rfl) ?_ | refine AOp.of_run (ARun.mvA (.inl rfl) rfl) ?_ | refine AOp.of_run (ARun.mvA (.inr rfl) rfl) ?_ | refine AOp.of_run (ARun.mvT (.inl rfl) rfl) ?_ | refine AOp.of_run (ARun.mvT (.inr rfl) rfl) ?_ | refine AOp.of_run (ARun.move rfl) ?_ | refine AOp.of_run (ARun.assign rfl) ?_ | refine AOp.of_run (ARun.fieldAddrL rfl rfl) ?_ | refine AOp.of_run (ARun.fieldAddr rfl rfl) ?_ | refine AOp.of_run (ARun.loadL rfl rfl rfl) ?_ | refine AOp.of_run (ARun.loadNL rfl rfl rfl) ?_ | refine AOp.of_run (ARun.lenL rfl rfl) ?_ | refine AOp.of_run (ARun.lenV rfl rfl) ?_ | refine AOp.of_run (ARun.pickT rfl rfl) ?_ | refine AOp.of_run (ARun.pickF rfl rfl) ?_ | refine AOp.of_run (ARun.pickB rfl rfl rfl rfl) ?_ | refine AOp.of_run (ARun.not rfl rfl) ?_ | refine AOp.of_run (ARun.add rfl rfl rfl) ?_ | refine AOp.of_run (ARun.sub rfl rfl rfl) ?_ | refine AOp.of_run (ARun.eql rfl rfl rfl) ?_ | refine AOp.of_run (ARun.neq rfl rfl rfl) ?_ | refine AOp.of_run (ARun.lss rfl rfl rfl) ?_ | refine AOp.of_run (ARun.leq rfl rfl rfl) ?_ | refine AOp.of_run (ARun.gtr rfl rfl rfl) ?_ | refine AOp.of_run (ARun.geq rfl rfl rfl) ?_ | refine AOp.of_run (ARun.build rfl) ?_ | refine AOp.of_run (ARun.extract rfl rfl rfl) ?_ | refine AOp.of_run (ARun.nilCheck rfl rfl) ?_ | refine AOp.of_run (ARun.load rfl rfl (hset_same _ _ _) rfl) ?_ | refine AOp.of_run (ARun.loadN rfl rfl (hset_same _ _ _) rfl) ?_ | refine AOp.of_run (ARun.makeInterface rfl (by kernel_rfl) rfl rfl) ?_ | refine AOp.of_run (ARun.mul rfl rfl rfl) ?_ | refine AOp.of_run (ARun.min rfl rfl rfl) ?_ | refine AOp.of_run (ARun.convert rfl (by kernel_rfl) (by kernel_rfl) rfl) ?_ | refine AOp.boxL rfl rfl ?_ | refine AOp.buildSlice rfl ?_))))
    refine AOps.step rfl rfl (AOp.append rfl ho (RdSl.ls (by rfl)) ?_ ?_ fun x' h2 ho2 => ?_)
    · unfold maxLen; omega
    · omega
    (repeat (first | refine AC.seq ?_ | refine AC.region ?_ | refine AC.block ?_ | refine AOps.nil ?_ | refine AC.skip ?_ | refine AC.exit ?_ | (refine AOps.step rfl rfl ?_; (first | refine AOp.of_run (ARun.mvV (.inl rfl) rfl) ?_ | refine AOp.of_run (ARun.mvV (.inr rfl) rfl) ?_ | refine AOp.of_run (ARun.mvL (.inl rfl) rfl) ?_ | refine AOp.of_run (ARun.mvL (.inr rfl) rfl) ?_ | refine AOp.of_run (ARun.mvP (.inl rfl) rfl) ?_ | refine AOp.of_run (ARun.mvP (.inr rfl) rfl) ?_ | refine AOp.of_run (ARun.mvA (.inl rfl) rfl) ?_ | refine AOp.of_run (ARun.mvA (.inr rfl) rfl) ?_ | refine AOp.of_run (ARun.mvT (.inl rfl) rfl) ?_ | refine AOp.of_run (ARun.mvT (.inr rfl) rfl) ?_ | refine AOp.of_run (ARun.move rfl) ?_ | refine AOp.of_run (ARun.assign rfl) ?_ | refine AOp.of_run (ARun.fieldAddrL rfl rfl) ?_ | refine AOp.of_run (ARun.fieldAddr rfl rfl) ?_ | refine AOp.of_run (ARun.loadL rfl rfl rfl) ?_ | refine AOp.of_run (ARun.loadNL rfl rfl rfl) ?_ | refine AOp.of_run (ARun.lenL rfl rfl) ?_ | refine AOp.of_run (ARun.lenV rfl rfl) ?_ | refine AOp.of_run (ARun.pickT rfl rfl) ?_ | refine AOp.of_run (ARun.pickF rfl rfl) ?_ | refine AOp.of_run (ARun.pickB rfl rfl rfl rfl) ?_ | refine AOp.of_run (ARun.not rfl rfl) ?_ | refine AOp.of_run (ARun.add rfl rfl rfl) ?_ | refine AOp.of_run (ARun.sub rfl rfl rfl) ?_ | refine AOp.of_run (ARun.eql rfl rfl rfl) ?_ | refine AOp.of_run (ARun.neq rfl rfl rfl) ?_ | refine AOp.of_run (ARun.lss rfl rfl rfl) ?_ | refine AOp.of_run (ARun.leq rfl rfl rfl) ?_ | refine AOp.of_run (ARun.gtr rfl rfl rfl) ?_ | refine AOp.of_run (ARun.geq rfl rfl rfl) ?_ | refine AOp.of_run (ARun.build rfl) ?_ | refine AOp.of_run (ARun.extract rfl rfl rfl) ?_ | refine AOp.of_run (ARun.nilCheck rfl rfl) ?_ | refine AOp.of_run (ARun.load rfl rfl (hset_same _ _ _) rfl) ?_ | refine AOp.of_run (ARun.loadN rfl rfl (hset_same _ _ _) rfl) ?_ | refine AOp.of_run (ARun.makeInterface rfl (by kernel_rfl) rfl rfl) ?_ | refine AOp.of_run (ARun.mul rfl rfl rfl) ?_ | refine AOp.of_run (ARun.min rfl rfl rfl) ?_ | refine AOp.of_run (ARun.convert rfl (by kernel_rfl) (by kernel_rfl) rfl) ?_ | refine AOp.boxL rfl rfl ?_ | refine AOp.buildSlice rfl ?_))))
    refine ⟨_, by omega, k + 1, x', hlt, rfl, ⟨rfl, rfl, rfl, eI_wrap (by omega) (by omega) (by omega), trivial⟩, ?_⟩
    rw [take_succ_map _ hlt]
    exact ho2
  · have hge : k = f.parts.length := by simp at hc; omega
    (repeat (first | refine AC.seq ?_ | refine AC.region ?_ | refine AC.block ?_ | refine AOps.nil ?_ | refine AC.skip ?_ | refine AC.exit ?_ | (refine AOps.step rfl rfl ?_; (first | refine AOp.of_run (ARun.mvV (.inl rfl) rfl) ?_ | refine AOp.of_run (ARun.mvV (.inr rfl) rfl) ?_ | refine AOp.of_run (ARun.mvL (.inl rfl) rfl) ?_ | refine AOp.of_run (ARun.mvL (.inr rfl) rfl) ?_ | refine AOp.of_run (ARun.mvP (.inl rfl) rfl) ?_ | refine AOp.of_run (ARun.mvP (.inr rfl) rfl) ?_ | refine AOp.of_run (ARun.mvA (.inl rfl) rfl) ?_ | refine AOp.of_run (ARun.mvA (.inr rfl) rfl) ?_ | refine AOp.of_run (ARun.mvT (.inl rfl) rfl) ?_ | refine AOp.of_run (ARun.mvT (.inr rfl) rfl) ?_ | refine AOp.of_run (ARun.move rfl) ?_ | refine AOp.of_run (ARun.assign rfl) ?_ | refine AOp.of_run (ARun.fieldAddrL rfl rfl) ?_ | refine AOp.of_run (ARun.fieldAddr rfl rfl) ?_ | refine AOp.of_run (ARun.loadL rfl rfl rfl) ?_ | refine AOp.of_run (ARun.loadNL rfl rfl rfl) ?_ | refine AOp.of_run (ARun.lenL rfl rfl) ?_ | refine AOp.of_run (ARun.lenV rfl rfl) ?_ | refine AOp.of_run (ARun.pickT rfl rfl) ?_ | refine AOp.of_run (ARun.pickF rfl rfl) ?_ | refine AOp.of_run (ARun.pickB rfl rfl rfl rfl) ?_ | refine AOp.of_run (ARun.not rfl rfl) ?_ | refine AOp.of_run (ARun.add rfl rfl rfl) ?_ | refine AOp.of_run (ARun.sub rfl rfl rfl) ?_ | refine AOp.of_run (ARun.eql rfl rfl rfl) ?_ | refine AOp.of_run (ARun.neq rfl rfl rfl) ?_ | refine AOp.of_run (ARun.lss rfl rfl rfl) ?_ | refine AOp.of_run (ARun.leq rfl rfl rfl) ?_ | refine AOp.of_run (ARun.gtr rfl rfl rfl) ?_ | refine AOp.of_run (ARun.geq rfl rfl rfl) ?_ | refine AOp.of_run (ARun.build rfl) ?_ | refine AOp.of_run (ARun.extract rfl rfl rfl) ?_ | refine AOp.of_run (ARun.nilCheck rfl rfl) ?_ | refine AOp.of_run (ARun.load rfl rfl (hset_same _ _ _) rfl) ?_ | refine AOp.of_run (ARun.loadN rfl rfl (hset_same _ _ _) rfl) ?_ | refine AOp.of_run (ARun.makeInterface rfl (by kernel_rfl) rfl rfl) ?_ | refine AOp.of_run (ARun.mul rfl rfl rfl) ?_ | refine AOp.of_run (ARun.min rfl rfl rfl) ?_ | refine AOp.of_run (ARun.convert rfl (by kernel_rfl) (by kernel_rfl) rfl) ?_ | refine AOp.boxL rfl rfl ?_ | refine AOp.buildSlice rfl ?_))))
    refine AC.ret (ARes.le (Le.freezeOwn (d := 2) ho) (ARes.one rfl (RV.tmp' rfl) ⟨?_, rfl⟩))
    subst hge
    rw [take_all (Nat.le_refl _)]
    simp [eIss, succL]; rfl
end Go.Proofs.Ytilanageangegaa

/- A graph's walk, children first, as plain Lean. No program here. -/
set_option linter.unusedVariables false
namespace Go.Ab

/-- A row of a graph, within its bounds. -/
def inside (succ : List (List Int)) (x : Nat) : List Int := (succ.getD x []).filter fun (y : Int) => decide (0 ≤ y) && decide (y < succ.length)
theorem inside_range {succ : List (List Int)} {x : Nat} {y : Int} (h : y ∈ inside succ x) : 0 ≤ y ∧ y < succ.length := by
  have := (List.mem_filter.1 h).2
  simpa using this

/-- Whom one has met; who is left. -/
abbrev DS := List Int × List Int
def visit (succ : List (List Int)) : Nat → DS → Int → DS
  | 0, s, _ => s
  | f + 1, s, x => if x ∈ s.1 then s else
    let t := (inside succ x.toNat).foldl (visit succ f) (x :: s.1, s.2)
    (t.1, t.2 ++ [x])

/-- A list without doubles within 0 .. n-1 is no longer than n. -/
theorem nodup_range : ∀ (n : Nat) (l : List Int), l.Nodup → (∀ y ∈ l, 0 ≤ y ∧ y < n) → l.length ≤ n
  | 0, [], _, _ => Nat.le_refl _
  | 0, y :: l, _, h => by have := h y (by simp); omega
  | n + 1, l, hd, h => by
    have h1 := nodup_range n (l.erase (n : Int)) (hd.erase _) fun y hy => by
      have hm := List.mem_of_mem_erase hy
      have hne : y ≠ (n : Int) := ((hd.mem_erase_iff).1 hy).1
      have := h y hm
      omega
    rw [List.length_erase] at h1
    split at h1 <;> omega

structure DI (n : Nat) (s : DS) : Prop where
  nodup : s.1.Nodup
  range : ∀ y ∈ s.1, 0 ≤ y ∧ y < n
theorem DI.len {n : Nat} {s : DS} (d : DI n s) : s.1.length ≤ n := nodup_range n _ d.nodup d.range
/-- From a state to a later one. -/
structure DG (s t : DS) : Prop where
  sub : ∀ y ∈ s.1, y ∈ t.1
  le : s.1.length ≤ t.1.length
  len : t.2.length + s.1.length = s.2.length + t.1.length
theorem DG.refl (s : DS) : DG s s := ⟨fun _ h => h, Nat.le_refl _, by omega⟩
theorem DG.trans {s t u : DS} (a : DG s t) (b : DG t u) : DG s u := ⟨fun y h => b.sub y (a.sub y h), Nat.le_trans a.le b.le, by have := a.len; have := b.len; omega⟩
theorem foldl_ok {n : Nat} {g : DS → Int → DS} (hg : ∀ (s : DS) (x : Int), DI n s → 0 ≤ x → x < n → DI n (g s x) ∧ DG s (g s x)) : ∀ (l : List Int) (s : DS), DI n s → (∀ y ∈ l, 0 ≤ y ∧ y < n) → DI n (l.foldl g s) ∧ DG s (l.foldl g s)
  | [], s, d, _ => ⟨d, DG.refl s⟩
  | x :: l, s, d, h => by
    obtain ⟨d1, g1⟩ := hg s x d (h x (by simp)).1 (h x (by simp)).2
    obtain ⟨d2, g2⟩ := foldl_ok hg l (g s x) d1 fun y hy => h y (by simp [hy])
    exact ⟨d2, g1.trans g2⟩
theorem visit_ok (succ : List (List Int)) : ∀ (f : Nat) (s : DS) (x : Int), DI succ.length s → 0 ≤ x → x < succ.length → DI succ.length (visit succ f s x) ∧ DG s (visit succ f s x)
  | 0, s, x, d, _, _ => ⟨d, DG.refl s⟩
  | f + 1, s, x, d, h0, h1 => by
    unfold visit
    by_cases hx : x ∈ s.1
    · rw [if_pos hx]; exact ⟨d, DG.refl s⟩
    · rw [if_neg hx]
      have d1 : DI succ.length (x :: s.1, s.2) := ⟨List.nodup_cons.2 ⟨hx, d.nodup⟩, fun y hy => by
        rcases List.mem_cons.1 hy with e | e
        · subst e; exact ⟨h0, h1⟩
        · exact d.range y e⟩
      obtain ⟨d2, g2⟩ := foldl_ok (g := visit succ f) (fun s x d a b => visit_ok succ f s x d a b) (inside succ x.toNat) _ d1 fun y hy => inside_range hy
      refine ⟨⟨d2.nodup, d2.range⟩, ⟨fun y hy => g2.sub y (by simp [hy]), ?_, ?_⟩⟩
      · have := g2.le; simp at this ⊢; omega
      · have := g2.len; simp at this ⊢; omega
theorem foldl_take_succ {α β : Type} (g : α → β → α) (s : α) {l : List β} {k : Nat} (h : k < l.length) : (l.take (k + 1)).foldl g s = g ((l.take k).foldl g s) l[k] := by
  rw [List.take_succ_eq_append_getElem h, List.foldl_append]; rfl

/-- The nodes, dominators first. -/
def order (succ : List (List Int)) : List Int := if succ = [] then [] else (visit succ (succ.length + 1) ([], []) 0).2.reverse

/-! ### What the order is -/
structure INV (succ : List (List Int)) (S : List Int) (s : DS) : Prop where
  perm : s.1.Perm (S ++ s.2)
  closed : ∀ y ∈ s.2, ∀ z ∈ inside succ y.toNat, z ∈ s.1
  par : ∀ (j : Nat) (y : Int), s.2[j]? = some y → y = 0 ∨ (∃ p ∈ S, y ∈ inside succ p.toNat) ∨ ∃ (i : Nat) (p : Int), j < i ∧ s.2[i]? = some p ∧ y ∈ inside succ p.toNat
theorem foldl_inv {succ : List (List Int)} {S : List Int} {f : Nat} (hg : ∀ (s : DS) (x : Int), DI succ.length s → 0 ≤ x → x < succ.length → succ.length < f + s.1.length → INV succ S s → (x = 0 ∨ ∃ p ∈ S, x ∈ inside succ p.toNat) → INV succ S (visit succ f s x) ∧ x ∈ (visit succ f s x).1) :
    ∀ (l : List Int) (s : DS), DI succ.length s → (∀ y ∈ l, 0 ≤ y ∧ y < succ.length) → succ.length < f + s.1.length → INV succ S s → (∀ y ∈ l, ∃ p ∈ S, y ∈ inside succ p.toNat) → INV succ S (l.foldl (visit succ f) s) ∧ ∀ y ∈ l, y ∈ (l.foldl (visit succ f) s).1
  | [], s, _, _, _, i, _ => ⟨i, fun y hy => by simp at hy⟩
  | x :: l, s, d, h, hf, i, hp => by
    have hx := h x (by simp)
    obtain ⟨i1, m1⟩ := hg s x d hx.1 hx.2 hf i (.inr (hp x (by simp)))
    obtain ⟨d1, g1⟩ := visit_ok succ f s x d hx.1 hx.2
    have hl : ∀ y ∈ l, 0 ≤ y ∧ y < succ.length := fun y hy => h y (by simp [hy])
    obtain ⟨i2, m2⟩ := foldl_inv hg l (visit succ f s x) d1 hl (by have := g1.le; omega) i1 fun y hy => hp y (by simp [hy])
    obtain ⟨_, g2⟩ := foldl_ok (g := visit succ f) (fun s x d a b => visit_ok succ f s x d a b) l _ d1 hl
    refine ⟨i2, fun y hy => ?_⟩
    rcases List.mem_cons.1 hy with e | e
    · subst e; exact g2.sub _ m1
    · exact m2 y e
theorem visit_inv (succ : List (List Int)) : ∀ (f : Nat) (S : List Int) (s : DS) (x : Int), DI succ.length s → 0 ≤ x → x < succ.length → succ.length < f + s.1.length → INV succ S s → (x = 0 ∨ ∃ p ∈ S, x ∈ inside succ p.toNat) → INV succ S (visit succ f s x) ∧ x ∈ (visit succ f s x).1
  | 0, S, s, x, d, _, _, hf, _, _ => by have := d.len; omega
  | f + 1, S, s, x, d, h0, h1, hf, i, hp => by
    unfold visit
    by_cases hx : x ∈ s.1
    · rw [if_pos hx]; exact ⟨i, hx⟩
    · rw [if_neg hx]
      have d1 : DI succ.length (x :: s.1, s.2) := ⟨List.nodup_cons.2 ⟨hx, d.nodup⟩, fun y hy => by
        rcases List.mem_cons.1 hy with e | e
        · subst e; exact ⟨h0, h1⟩
        · exact d.range y e⟩
      have i1 : INV succ (x :: S) (x :: s.1, s.2) := ⟨i.perm.cons x, fun y hy z hz => List.mem_cons_of_mem _ (i.closed y hy z hz), fun j y hy => by
        rcases i.par j y hy with e | ⟨p, hp, e⟩ | e
        · exact .inl e
        · exact .inr (.inl ⟨p, List.mem_cons_of_mem _ hp, e⟩)
        · exact .inr (.inr e)⟩
      obtain ⟨d2, g2⟩ := foldl_ok (g := visit succ f) (fun s x d a b => visit_ok succ f s x d a b) (inside succ x.toNat) _ d1 fun y hy => inside_range hy
      obtain ⟨i2, m2⟩ := foldl_inv (fun s x => visit_inv succ f (x := x) (s := s) (S := _)) (inside succ x.toNat) _ d1 (fun y hy => inside_range hy) (by simp; omega) i1 fun y hy => ⟨x, by simp, hy⟩
      generalize (inside succ x.toNat).foldl (visit succ f) (x :: s.1, s.2) = T at *
      have hxT : x ∈ T.1 := g2.sub x (by simp)
      refine ⟨⟨?_, fun y hy z hz => ?_, fun j y hy => ?_⟩, hxT⟩
      · refine i2.perm.trans ?_
        rw [← List.append_assoc]
        exact (List.perm_append_singleton x (S ++ T.2)).symm
      · rcases List.mem_append.1 hy with e | e
        · exact i2.closed y e z hz
        · have : y = x := by simpa using e
          subst this; exact m2 z hz
      · simp only at hy
        rcases Nat.lt_or_ge j T.2.length with c | c
        · rw [List.getElem?_append_left c] at hy
          rcases i2.par j y hy with e | ⟨p, hp, e⟩ | ⟨k, p, hk, hkp, e⟩
          · exact .inl e
          · rcases List.mem_cons.1 hp with e2 | e2
            · subst e2; exact .inr (.inr ⟨T.2.length, p, c, by simp, e⟩)
            · exact .inr (.inl ⟨p, e2, e⟩)
          · exact .inr (.inr ⟨k, p, hk, by rw [List.getElem?_append_left (List.getElem?_eq_some_iff.1 hkp).1]; exact hkp, e⟩)
        · have hj : j = T.2.length := by
            have := (List.getElem?_eq_some_iff.1 hy).1
            simp at this; omega
          subst hj
          have : y = x := by simpa using hy.symm
          subst this
          rcases hp with e | e
          · exact .inl e
          · exact .inr (.inl e)

/-- The order's laws. -/
structure Ord (succ : List (List Int)) (o : List Int) : Prop where
  range : ∀ y ∈ o, 0 ≤ y ∧ y < succ.length
  nodup : o.Nodup
  head : o[0]? = some 0
  closed : ∀ y ∈ o, ∀ z ∈ inside succ y.toNat, z ∈ o
  par : ∀ (j : Nat) (y : Int), 0 < j → o[j]? = some y → ∃ (i : Nat) (p : Int), i < j ∧ o[i]? = some p ∧ y ∈ inside succ p.toNat
theorem order_ord {succ : List (List Int)} (h0 : succ ≠ []) : Ord succ (order succ) := by
  have h1 : 0 < succ.length := List.length_pos_iff.2 h0
  unfold order
  rw [if_neg h0]
  have d0 : DI succ.length ([], []) := ⟨List.nodup_nil, fun y hy => by simp at hy⟩
  obtain ⟨i, m⟩ := visit_inv succ (succ.length + 1) [] ([], []) 0 d0 (by omega) (by omega) (by simp) ⟨by simp, fun y hy => by simp at hy, fun j y hy => by simp at hy⟩ (.inl rfl)
  obtain ⟨d, g⟩ := visit_ok succ (succ.length + 1) ([], []) 0 d0 (by omega) (by omega)
  have hlast : ∃ l, (visit succ (succ.length + 1) ([], []) 0).2 = l ++ [0] := ⟨_, by rw [visit]; rw [if_neg (by simp)]⟩
  generalize visit succ (succ.length + 1) ([], []) 0 = T at *
  have hp : T.1.Perm T.2 := by simpa using i.perm
  have hnd : T.2.Nodup := hp.nodup_iff.1 d.nodup
  obtain ⟨l, hl⟩ := hlast
  refine ⟨fun y hy => d.range y (hp.mem_iff.2 (List.mem_reverse.1 hy)), (List.reverse_perm T.2).nodup_iff.2 hnd, by rw [hl]; simp, fun y hy z hz => List.mem_reverse.2 (hp.mem_iff.1 (i.closed y (List.mem_reverse.1 hy) z hz)), fun j y hj hy => ?_⟩
  have hjl : j < T.2.length := by have := (List.getElem?_eq_some_iff.1 hy).1; simpa using this
  rw [List.getElem?_reverse hjl] at hy
  rcases i.par _ y hy with e | ⟨p, hp, e⟩ | ⟨k, p, hk, hkp, e⟩
  · exfalso
    subst e
    have e1 : T.2[T.2.length - 1]? = some 0 := by rw [hl]; simp
    have := (List.getElem?_inj (i := T.2.length - 1 - j) (by omega) hnd).1 (hy.trans e1.symm)
    omega
  · simp at hp
  · have hkl := (List.getElem?_eq_some_iff.1 hkp).1
    exact ⟨T.2.length - 1 - k, p, by omega, by rw [List.getElem?_reverse (by omega), show T.2.length - 1 - (T.2.length - 1 - k) = k by omega]; exact hkp, e⟩
theorem order_len (succ : List (List Int)) : (order succ).length ≤ succ.length := by
  by_cases h0 : succ = []
  · subst h0; exact Nat.le_refl _
  · exact nodup_range _ _ (order_ord h0).nodup (order_ord h0).range
theorem order_range (succ : List (List Int)) : ∀ y ∈ order succ, 0 ≤ y ∧ y < succ.length := by
  by_cases h0 : succ = []
  · subst h0; intro y hy; simp [order] at hy
  · exact (order_ord h0).range
end Go.Ab

/- Walks of package dom (1): inside. -/
set_option linter.unusedVariables false
namespace Go.Proofs.Ytilanageangegaa
open Go.Ab

theorem filter_take_succ (p : Int → Bool) {l : List Int} {k : Nat} (h : k < l.length) : (l.take (k + 1)).filter p = (l.take k).filter p ++ (if p l[k] = true then [l[k]] else []) := by
  rw [List.take_succ_eq_append_getElem h, List.filter_append]
  congr 1
  by_cases c : p l[k] = true <;> simp [c]

set_option maxRecDepth 10000 in
theorem inside_spec (succ : List (List Int)) (x : Nat) (hlt : x < succ.length) (h : AHeap) (hn : succ.length ≤ 1000000) (hm : ∀ l ∈ succ, l.length ≤ 1000000) : Sp Try.prog 132 [eIss succ, eI x] h (fun r h' => r = eIs (inside succ x) ∧ h' = h) := by
  have hrow : succ.getD x [] = succ[x] := by simp [List.getD_eq_getElem?_getD, hlt]
  have hl : succ[x].length ≤ 1000000 := hm _ (List.getElem_mem hlt)
  generalize hR : succ[x] = R at *
  refine Sp.of Try.func132 rfl rfl (by show 2 ≤ 31; decide) ?_
  (repeat (first | refine AC.seq ?_ | refine AC.block ?_ | refine AC.skip ?_))
  refine AC.region ?_
  refine AOps.step rfl rfl ?_
  refine AOp.of_run (ARun.mvV (.inr rfl) rfl) ?_
  refine AOps.nil ?_
  (repeat (first | refine AC.seq ?_ | refine AC.block ?_ | refine AC.skip ?_))
  refine AC.region ?_
  refine AOps.step rfl rfl ?_
  refine AOp.of_run (ARun.mvV (.inr rfl) rfl) ?_
  refine AOps.nil ?_
  (repeat (first | refine AC.seq ?_ | refine AC.block ?_ | refine AC.skip ?_))
  refine AC.region ?_
  refine AOps.step rfl rfl ?_
  refine AOp.of_run (ARun.mvL (.inl rfl) rfl) ?_
  refine AOps.step rfl rfl ?_
  refine AOp.of_run (ARun.mvV (.inl rfl) rfl) ?_
  refine AOps.step rfl rfl ?_
  refine AOp.of_run (ARun.indexAddrL rfl rfl rfl (by omega) (by omega)) ?_
  refine AOps.step rfl rfl ?_
  refine AOp.of_run (ARun.loadL rfl rfl (get_map hlt)) ?_
  refine AOps.step rfl rfl ?_
  refine AOp.of_run (ARun.lenL rfl rfl) ?_
  refine AOps.step rfl rfl ?_
  refine AOp.of_run (ARun.mvV (.inl rfl) rfl) ?_
  refine AOps.nil ?_
  rw [hR]
  (repeat (first | refine AC.seq ?_ | refine AC.block ?_ | refine AC.skip ?_ | refine AC.exit ?_))
  refine AC.loop (fun m τ h' => ∃ k n v, k ≤ R.length ∧ m = R.length - k ∧ Slots τ [(0, eIss succ), (5, v), (11, eIs R), (12, eI R.length), (13, eI k)] ∧ Own h 3 1 n (((R.take k).filter fun (y : Int) => decide (0 ≤ y) && decide (y < succ.length)).map eI) v h') R.length ?_ ?_
  · exact ⟨0, 0, _, Nat.zero_le _, rfl, ⟨rfl, rfl, rfl, rfl, rfl, trivial⟩, Own.nil h 3 1⟩
  rintro m τ h' ⟨k, n, v, hk, rfl, hs, ho⟩
  obtain ⟨t0, rfl⟩ := hs.open_
  (repeat (first | refine AC.seq ?_ | refine AC.block ?_ | refine AC.skip ?_))
  refine AC.region ?_
  refine AOps.step rfl rfl ?_
  refine AOp.of_run (ARun.lss rfl rfl rfl) ?_
  refine AOps.nil ?_
  (repeat (first | refine AC.seq ?_ | refine AC.block ?_ | refine AC.skip ?_)); refine AC.cond rfl (fun hc => ?_) (fun hc => ?_)
  · have hlt : k < R.length := by simpa using hc
    (repeat (first | refine AC.seq ?_ | refine AC.block ?_ | refine AC.skip ?_ | refine AC.exit ?_))
    (repeat (first | refine AC.seq ?_ | refine AC.block ?_ | refine AC.skip ?_))
    refine AC.region ?_
    refine AOps.step rfl rfl ?_
    refine AOp.of_run (ARun.indexAddrL rfl rfl rfl (by omega) (by omega)) ?_
    refine AOps.step rfl rfl ?_
    refine AOp.of_run (ARun.loadL rfl rfl (get_map hlt)) ?_
    refine AOps.step rfl rfl ?_
    refine AOp.of_run (ARun.mvV (.inr rfl) rfl) ?_
    refine AOps.nil ?_
    have fin : ∀ (b : Bool), (decide (0 ≤ R[k]) && decide (R[k] < succ.length)) = b → True := fun _ _ => trivial
    (repeat (first | refine AC.seq ?_ | refine AC.block ?_ | refine AC.skip ?_))
    refine AC.region ?_
    refine AOps.step rfl rfl ?_
    refine AOp.of_run (ARun.mvV (.inl rfl) rfl) ?_
    refine AOps.step rfl rfl ?_
    refine AOp.of_run (ARun.geq rfl rfl rfl) ?_
    refine AOps.step rfl rfl ?_
    refine AOp.of_run (ARun.mvV (.inl rfl) rfl) ?_
    cases g2 : decide (0 ≤ R[k])
    · refine AOps.pass rfl rfl (by decide) rfl (by decide) rfl ?_
      refine AOps.pass rfl rfl (by decide) rfl (by decide) rfl ?_
      refine AOps.pass rfl rfl (by decide) rfl (by decide) rfl ?_
      refine AOps.pass rfl rfl (by decide) rfl (by decide) rfl ?_
      refine AOps.step rfl rfl ?_
      refine AOp.of_run (ARun.pickF rfl rfl) ?_
      refine AOps.nil ?_
      (repeat (first | refine AC.seq ?_ | refine AC.block ?_ | refine AC.skip ?_)); refine AC.cond rfl (fun hc => ?_) (fun hc => ?_)
      · cases hc
      (repeat (first | refine AC.seq ?_ | refine AC.block ?_ | refine AC.skip ?_ | refine AC.exit ?_))
      (repeat (first | refine AC.seq ?_ | refine AC.block ?_ | refine AC.skip ?_))
      refine AC.region ?_
      refine AOps.step rfl rfl ?_
      refine AOp.of_run (ARun.add rfl rfl rfl) ?_
      refine AOps.step rfl rfl ?_
      refine AOp.of_run (ARun.mvV (.inl rfl) rfl) ?_
      refine AOps.nil ?_
      refine ⟨_, by omega, k + 1, n, v, hlt, rfl, ⟨rfl, rfl, rfl, rfl, eI_wrap (by omega) (by omega) (by omega), trivial⟩, ?_⟩
      rw [filter_take_succ _ hlt]
      simpa [g2] using ho
    · refine AOps.want rfl rfl (by decide) rfl ?_
      refine AOps.step rfl rfl ?_
      refine AOp.of_run (ARun.mvV (.inl rfl) rfl) ?_
      refine AOps.want rfl rfl (by decide) rfl ?_
      refine AOps.step rfl rfl ?_
      refine AOp.of_run (ARun.mvL (.inl rfl) rfl) ?_
      refine AOps.want rfl rfl (by decide) rfl ?_
      refine AOps.step rfl rfl ?_
      refine AOp.of_run (ARun.lenL rfl rfl) ?_
      refine AOps.want rfl rfl (by decide) rfl ?_
      refine AOps.step rfl rfl ?_
      refine AOp.of_run (ARun.lss rfl rfl rfl) ?_
      refine AOps.step rfl rfl ?_
      refine AOp.of_run (ARun.pickT rfl rfl) ?_
      refine AOps.nil ?_
      (repeat (first | refine AC.seq ?_ | refine AC.block ?_ | refine AC.skip ?_)); refine AC.cond rfl (fun hc => ?_) (fun hc => ?_)
      · (repeat (first | refine AC.seq ?_ | refine AC.block ?_ | refine AC.skip ?_))
        refine AC.region ?_
        refine AOps.step rfl rfl ?_
        refine AOp.of_run (ARun.move rfl) ?_
        refine AOps.step rfl rfl ?_
        refine AOp.of_run (ARun.mvV (.inl rfl) rfl) ?_
        refine AOps.step rfl rfl ?_
        refine AOp.buildSlice rfl ?_
        refine AOps.step rfl rfl (AOp.append rfl ho (RdSl.ls (by rfl)) ?_ ?_ fun x' h2 ho2 => ?_)
        · have := ho.1; have h3 := List.length_filter_le (fun (y : Int) => decide (0 ≤ y) && decide (y < succ.length)) (R.take k); have h4 := List.length_take_le k R; simp at this; unfold maxLen; omega
        · have := ho.1; have h3 := List.length_filter_le (fun (y : Int) => decide (0 ≤ y) && decide (y < succ.length)) (R.take k); have h4 := List.length_take_le k R; simp at this; omega
        refine AOps.step rfl rfl ?_
        refine AOp.of_run (ARun.assign rfl) ?_
        refine AOps.nil ?_
        (repeat (first | refine AC.seq ?_ | refine AC.block ?_ | refine AC.skip ?_))
        refine AC.region ?_
        refine AOps.step rfl rfl ?_
        refine AOp.of_run (ARun.add rfl rfl rfl) ?_
        refine AOps.step rfl rfl ?_
        refine AOp.of_run (ARun.mvV (.inl rfl) rfl) ?_
        refine AOps.nil ?_
        refine ⟨_, by omega, k + 1, n + 1, x', hlt, rfl, ⟨rfl, rfl, rfl, rfl, eI_wrap (by omega) (by omega) (by omega), trivial⟩, ?_⟩
        rw [filter_take_succ _ hlt, if_pos (by rw [g2, hc]; rfl), List.map_append]
        exact ho2
      · (repeat (first | refine AC.seq ?_ | refine AC.block ?_ | refine AC.skip ?_ | refine AC.exit ?_))
        (repeat (first | refine AC.seq ?_ | refine AC.block ?_ | refine AC.skip ?_))
        refine AC.region ?_
        refine AOps.step rfl rfl ?_
        refine AOp.of_run (ARun.add rfl rfl rfl) ?_
        refine AOps.step rfl rfl ?_
        refine AOp.of_run (ARun.mvV (.inl rfl) rfl) ?_
        refine AOps.nil ?_
        refine ⟨_, by omega, k + 1, n, v, hlt, rfl, ⟨rfl, rfl, rfl, rfl, eI_wrap (by omega) (by omega) (by omega), trivial⟩, ?_⟩
        rw [filter_take_succ _ hlt, if_neg (by rw [g2, hc]; simp)]
        simpa using ho
  · have hge : k = R.length := by simp at hc; omega
    (repeat (first | refine AC.seq ?_ | refine AC.block ?_ | refine AC.skip ?_ | refine AC.exit ?_))
    (repeat (first | refine AC.seq ?_ | refine AC.block ?_ | refine AC.skip ?_))
    refine AC.region ?_
    refine AOps.step rfl rfl ?_
    refine AOp.of_run (ARun.move rfl) ?_
    refine AOps.step rfl rfl ?_
    refine AOp.of_run (ARun.assign rfl) ?_
    refine AOps.nil ?_
    refine AC.ret (ARes.le (Le.freezeOwn (d := 4) ho) (ARes.one rfl (RV.L rfl) ⟨?_, rfl⟩))
    subst hge
    have hl2 := ho.1
    rw [take_all (Nat.le_refl _)] at hl2 ⊢
    simp only [List.length_map, Nat.mul_one] at hl2
    simp only [eIs, inside, hrow, hl2]
end Go.Proofs.Ytilanageangegaa

/- Walks of package dom (2): a slice reversed in place. -/
set_option linter.unusedVariables false
namespace Go.Proofs.Ytilanageangegaa
open Go.Ab

theorem rev_all {α : Type} {cs L : List α} {n k : Nat} (hc : cs.length = n) (hl : L.length = n) (hk : n ≤ 2 * k + 1) (hL : ∀ i, i < n → L[i]? = if i < k ∨ n ≤ i + k then cs[n - 1 - i]? else cs[i]?) : L = cs.reverse := by
  apply List.ext_getElem?
  intro i
  rcases Nat.lt_or_ge i n with h | h
  · rw [hL i h, List.getElem?_reverse (by omega), hc]
    split
    · rfl
    · congr 1; omega
  · rw [List.getElem?_eq_none (by omega), List.getElem?_eq_none (by simp; omega)]

set_option maxRecDepth 10000 in
theorem Reverse_spec {h0 h : AHeap} {n : Nat} {cs : List AVal} {x : AVal} (ho : Own h0 3 1 n cs x h) (hn : n ≤ 1000000) (hcell : cs.all cellB = true) : Sp Try.prog 133 [x] h (fun r h' => r = .tup [] ∧ Own h0 3 1 n cs.reverse x h') := by
  obtain ⟨a, c, rfl, hnc⟩ := ho.isSlice
  have hcl : cs.length = n := by have := ho.1; omega
  refine Sp.of Try.func133 rfl rfl (by show 1 ≤ 28; decide) ?_
  (repeat (first | refine AC.seq ?_ | refine AC.block ?_ | refine AC.skip ?_))
  refine AC.region ?_
  refine AOps.step rfl rfl ?_
  refine AOp.of_run (ARun.mvV (.inl rfl) rfl) ?_
  refine AOps.step rfl rfl ?_
  refine AOp.of_run (ARun.lenV rfl rfl) ?_
  refine AOps.step rfl rfl ?_
  refine AOp.of_run (ARun.sub rfl rfl rfl) ?_
  refine AOps.step rfl rfl ?_
  refine AOp.of_run (ARun.mvV (.inr rfl) rfl) ?_
  refine AOps.step rfl rfl ?_
  refine AOp.of_run (ARun.mvV (.inr rfl) rfl) ?_
  refine AOps.nil ?_
  (repeat (first | refine AC.seq ?_ | refine AC.block ?_ | refine AC.skip ?_ | refine AC.exit ?_))
  refine AC.loop (fun m τ h' => ∃ (k : Nat) (L : List AVal), 2 * k ≤ n + 1 ∧ m = n + 1 - k ∧ Slots τ [(0, .v (.slice a n c)), (2, eI k), (3, eI (n - 1 - k))] ∧ L.length = n ∧ L.all cellB = true ∧ (∀ i, i < n → L[i]? = if i < k ∨ n ≤ i + k then cs[n - 1 - i]? else cs[i]?) ∧ Own h0 3 1 n L (.v (.slice a n c)) h') (n + 1) ?_ ?_
  · exact ⟨0, cs, by omega, rfl, ⟨rfl, rfl, eI_wrap (by omega) (by omega) (by omega), trivial⟩, hcl, hcell, fun i hi => by rw [if_neg (by omega)], ho⟩
  rintro m τ h' ⟨k, L, hk, rfl, hs, hLl, hLc, hL, hO⟩
  obtain ⟨t0, rfl⟩ := hs.open_
  (repeat (first | refine AC.seq ?_ | refine AC.block ?_ | refine AC.skip ?_))
  refine AC.region ?_
  refine AOps.step rfl rfl ?_
  refine AOp.of_run (ARun.mvV (.inl rfl) rfl) ?_
  refine AOps.step rfl rfl ?_
  refine AOp.of_run (ARun.mvV (.inl rfl) rfl) ?_
  refine AOps.step rfl rfl ?_
  refine AOp.of_run (ARun.lss rfl rfl rfl) ?_
  refine AOps.nil ?_
  (repeat (first | refine AC.seq ?_ | refine AC.block ?_ | refine AC.skip ?_)); refine AC.cond rfl (fun hc => ?_) (fun hc => ?_)
  · have hlt0 : (k : Int) < n - 1 - k := by simpa using hc
    obtain ⟨b, c', e, hb, hnc', hmc, rfl⟩ := hO.blk (by omega)
    injection e with e; injection e with e1 _ e3; subst e1; subst e3
    have hj : ((n : Int) - 1 - k).toNat = n - 1 - k := by omega
    have hlt : k < L.length := by omega
    have hlt2 : n - 1 - k < L.length := by omega
    have g1 : L[(((n : Int) - 1 - k).toNat * 1)]? = some L[n - 1 - k] := by rw [hj, Nat.mul_one]; exact List.getElem?_eq_getElem _
    have g2 : L[0 + ((k : Int).toNat * 1)]? = some L[k] := by rw [Int.toNat_natCast, Nat.mul_one, Nat.zero_add]; exact List.getElem?_eq_getElem _
    have g3 : L[0 + (((n : Int) - 1 - k).toNat * 1)]? = some L[n - 1 - k] := by rw [Nat.zero_add]; exact g1
    (repeat (first | refine AC.seq ?_ | refine AC.block ?_ | refine AC.skip ?_ | refine AC.exit ?_))
    (repeat (first | refine AC.seq ?_ | refine AC.block ?_ | refine AC.skip ?_))
    refine AC.drawnH [0, 1, 2, 3, 4, 5, 6, 7, 8, 9, 10, 11, 12] [7, 11] [0, 1, 2, 3, 4, 5, 6, 7, 8, 9, 10, 11, 12, 13, 14, 15] mixed (by kernel_rfl) ?_
    refine RunA.pure rfl rfl rfl rfl rfl (fun _ => ARun.mvV (.inl rfl) rfl) ?_
    refine RunA.pure rfl rfl rfl rfl rfl (fun _ => ARun.mvV (.inl rfl) rfl) ?_
    refine RunA.pure rfl rfl rfl rfl rfl (fun _ => ARun.mvV (.inl rfl) rfl) ?_
    refine RunA.pure rfl rfl rfl rfl rfl (fun _ => ARun.mvV (.inl rfl) rfl) ?_
    refine RunA.pure rfl rfl rfl rfl rfl (fun _ => ARun.mvV (.inl rfl) rfl) ?_
    refine RunA.pure rfl rfl rfl rfl rfl (fun _ => ARun.mvV (.inl rfl) rfl) ?_
    refine RunA.pure rfl rfl rfl rfl rfl (fun _ => ARun.indexAddr rfl rfl rfl (by omega) (by omega)) ?_
    refine RunA.calm rfl rfl rfl rfl rfl (HSub.refl _) (fun _ hsub => ARun.load rfl rfl (hsub _ _ (hset_same _ _ _)) g3) ?_
    refine RunA.pure rfl rfl rfl rfl rfl (fun _ => ARun.mvV (.inl rfl) rfl) ?_
    refine RunA.pure rfl rfl rfl rfl rfl (fun _ => ARun.mvV (.inl rfl) rfl) ?_
    refine RunA.pure rfl rfl rfl rfl rfl (fun _ => ARun.indexAddr rfl rfl rfl (by omega) (by omega)) ?_
    refine RunA.calm rfl rfl rfl rfl rfl (HSub.refl _) (fun _ hsub => ARun.load rfl rfl (hsub _ _ (hset_same _ _ _)) g2) ?_
    refine RunA.pure rfl rfl rfl rfl rfl (fun _ => ARun.indexAddr rfl rfl rfl (by omega) (by omega)) ?_
    refine RunA.op rfl rfl rfl rfl ?_
    refine AOp.store1 rfl rfl (hset_same _ _ _) (xcells_of_cell (all_getElem hLc hlt2)) (by rw [Int.toNat_natCast]; omega) ?_ (all_getElem hLc hlt2)
    refine ⟨lateAbs (by decide +kernel), ?_⟩
    refine RunA.op rfl rfl rfl rfl ?_
    refine AOp.of_run (ARun.indexAddr rfl rfl rfl (by omega) (by omega)) ?_
    refine ⟨fun _ q => q, ?_⟩
    refine RunA.op rfl rfl rfl rfl ?_
    refine AOp.store1 rfl rfl (hset_same _ _ _) (xcells_of_cell (all_getElem hLc hlt)) (by rw [List.length_set, hj]; omega) ?_ (all_getElem hLc hlt)
    refine ⟨lateAbs (by decide +kernel), ?_⟩
    refine RunA.nil ?_
    (repeat (first | refine AC.seq ?_ | refine AC.block ?_ | refine AC.skip ?_))
    refine AC.region ?_
    refine AOps.step rfl rfl ?_
    refine AOp.of_run (ARun.mvV (.inl rfl) rfl) ?_
    refine AOps.step rfl rfl ?_
    refine AOp.of_run (ARun.add rfl rfl rfl) ?_
    refine AOps.step rfl rfl ?_
    refine AOp.of_run (ARun.mvV (.inl rfl) rfl) ?_
    refine AOps.step rfl rfl ?_
    refine AOp.of_run (ARun.sub rfl rfl rfl) ?_
    refine AOps.step rfl rfl ?_
    refine AOp.of_run (ARun.mvV (.inr rfl) rfl) ?_
    refine AOps.step rfl rfl ?_
    refine AOp.of_run (ARun.mvV (.inr rfl) rfl) ?_
    refine AOps.nil ?_
    rw [hset_hset, hset_hset, hj]
    refine ⟨_, by omega, k + 1, (L.set (0 + (k : Int).toNat * 1) L[n - 1 - k]).set (0 + (n - 1 - k) * 1) L[k], by omega, rfl, ⟨rfl, eI_wrap (by omega) (by omega) (by omega), eI_wrap (by omega) (by omega) (by omega), trivial⟩, by simpa using hLl, all_set (all_set hLc (all_getElem hLc hlt2)) (all_getElem hLc hlt), ?_, ?_⟩
    · intro i hi
      rw [Int.toNat_natCast]
      simp only [Nat.zero_add, Nat.mul_one]
      rw [List.getElem?_set, List.getElem?_set]
      have e1 : L[k]? = cs[k]? := by rw [hL k (by omega), if_neg (by omega)]
      have e2 : L[n - 1 - k]? = cs[n - 1 - k]? := by rw [hL _ (by omega), if_neg (by omega)]
      rw [List.getElem?_eq_getElem hlt] at e1
      rw [List.getElem?_eq_getElem hlt2] at e2
      by_cases c1 : n - 1 - k = i
      · rw [if_pos c1, if_pos (by simp; omega), if_pos (by omega), e1]; congr 1; omega
      · rw [if_neg c1]
        by_cases c2 : k = i
        · rw [if_pos c2, if_pos (by omega), if_pos (by omega), e2]; congr 1; omega
        · rw [if_neg c2, hL i hi]
          by_cases c3 : i < k ∨ n ≤ i + k
          · rw [if_pos c3, if_pos (by omega)]
          · rw [if_neg c3, if_neg (by omega)]
    · exact ⟨by simp; omega, .inr ⟨b, c, rfl, hb, hnc', hmc, rfl⟩⟩
  · have hge : n ≤ 2 * k + 1 := by simp at hc; omega
    (repeat (first | refine AC.seq ?_ | refine AC.block ?_ | refine AC.skip ?_ | refine AC.exit ?_))
    refine ARes.none rfl ⟨rfl, ?_⟩
    rw [← rev_all hcl hLl hge hL]
    exact hO
end Go.Proofs.Ytilanageangegaa

/- Walks of package slices: Index, Contains, Equal. -/
set_option linter.unusedVariables false
namespace Go.Proofs.Ytilanageangegaa
open Go.Ab

set_option maxRecDepth 10000 in
theorem Index_spec (a : List Int) (x : Int) (h : AHeap) (ha : a.length ≤ 1000000000) : Sp Try.prog 110 [eIs a, eI x] h (fun r h' => (∃ i : Int, r = eI i ∧ (0 ≤ i ↔ x ∈ a)) ∧ h' = h) := by
  refine Sp.of Try.func110 rfl rfl (by show 2 ≤ 19; decide) ?_
  (repeat (first | refine AC.seq ?_ | refine AC.block ?_ | refine AC.skip ?_))
  refine AC.region ?_
  refine AOps.step rfl rfl ?_
  refine AOp.of_run (ARun.mvV (.inr rfl) rfl) ?_
  refine AOps.nil ?_
  (repeat (first | refine AC.seq ?_ | refine AC.block ?_ | refine AC.skip ?_))
  refine AC.region ?_
  refine AOps.step rfl rfl ?_
  refine AOp.of_run (ARun.mvL (.inl rfl) rfl) ?_
  refine AOps.step rfl rfl ?_
  refine AOp.of_run (ARun.lenL rfl rfl) ?_
  refine AOps.step rfl rfl ?_
  refine AOp.of_run (ARun.mvV (.inl rfl) rfl) ?_
  refine AOps.nil ?_
  (repeat (first | refine AC.seq ?_ | refine AC.block ?_ | refine AC.skip ?_ | refine AC.exit ?_))
  refine AC.loop (fun m τ h' => ∃ k, k ≤ a.length ∧ m = a.length - k ∧ Slots τ [(0, eIs a), (1, eI x), (7, eI a.length), (8, eI k)] ∧ (∀ i (h1 : i < a.length), i < k → x ≠ a[i]) ∧ h' = h) a.length ?_ ?_
  · exact ⟨0, Nat.zero_le _, rfl, ⟨rfl, rfl, rfl, rfl, trivial⟩, fun i _ hi => absurd hi (Nat.not_lt_zero _), rfl⟩
  rintro m τ h' ⟨k, hk, rfl, hs, hall, rfl⟩
  obtain ⟨t0, rfl⟩ := hs.open_
  (repeat (first | refine AC.seq ?_ | refine AC.block ?_ | refine AC.skip ?_))
  refine AC.region ?_
  refine AOps.step rfl rfl ?_
  refine AOp.of_run (ARun.lss rfl rfl rfl) ?_
  refine AOps.nil ?_
  (repeat (first | refine AC.seq ?_ | refine AC.block ?_ | refine AC.skip ?_)); refine AC.cond rfl (fun hc => ?_) (fun hc => ?_)
  · have hlt : k < a.length := by simpa using hc
    (repeat (first | refine AC.seq ?_ | refine AC.block ?_ | refine AC.skip ?_ | refine AC.exit ?_))
    (repeat (first | refine AC.seq ?_ | refine AC.block ?_ | refine AC.skip ?_))
    refine AC.region ?_
    refine AOps.step rfl rfl ?_
    refine AOp.of_run (ARun.mvV (.inl rfl) rfl) ?_
    refine AOps.step rfl rfl ?_
    refine AOp.of_run (ARun.mvV (.inr rfl) rfl) ?_
    refine AOps.nil ?_
    (repeat (first | refine AC.seq ?_ | refine AC.block ?_ | refine AC.skip ?_))
    refine AC.region ?_
    refine AOps.step rfl rfl ?_
    refine AOp.of_run (ARun.mvV (.inl rfl) rfl) ?_
    refine AOps.step rfl rfl ?_
    refine AOp.of_run (ARun.mvL (.inl rfl) rfl) ?_
    refine AOps.step rfl rfl ?_
    refine AOp.of_run (ARun.mvV (.inl rfl) rfl) ?_
    refine AOps.step rfl rfl ?_
    refine AOp.of_run (ARun.indexAddrL rfl rfl rfl (by omega) (by omega)) ?_
    refine AOps.step rfl rfl ?_
    refine AOp.of_run (ARun.loadL rfl rfl (get_map hlt)) ?_
    refine AOps.step rfl rfl ?_
    refine AOp.of_run (ARun.eql rfl rfl rfl) ?_
    refine AOps.nil ?_
    (repeat (first | refine AC.seq ?_ | refine AC.block ?_ | refine AC.skip ?_)); refine AC.cond rfl (fun hc => ?_) (fun hc => ?_)
    · (repeat (first | refine AC.seq ?_ | refine AC.block ?_ | refine AC.skip ?_))
      refine AC.region ?_
      refine AOps.step rfl rfl ?_
      refine AOp.of_run (ARun.mvV (.inl rfl) rfl) ?_
      refine AOps.step rfl rfl ?_
      refine AOp.of_run (ARun.mvV (.inr rfl) rfl) ?_
      refine AOps.nil ?_
      refine AC.ret (ARes.one rfl (RV.V rfl) ⟨⟨k, rfl, ?_⟩, rfl⟩)
      have : x = a[k] := by simpa using hc
      exact ⟨fun _ => this ▸ List.getElem_mem hlt, fun _ => by omega⟩
    · have he : x ≠ a[k] := by simpa using hc
      (repeat (first | refine AC.seq ?_ | refine AC.block ?_ | refine AC.skip ?_ | refine AC.exit ?_))
      (repeat (first | refine AC.seq ?_ | refine AC.block ?_ | refine AC.skip ?_))
      refine AC.region ?_
      refine AOps.step rfl rfl ?_
      refine AOp.of_run (ARun.add rfl rfl rfl) ?_
      refine AOps.step rfl rfl ?_
      refine AOp.of_run (ARun.mvV (.inl rfl) rfl) ?_
      refine AOps.nil ?_
      refine ⟨_, by omega, k + 1, hlt, rfl, ⟨rfl, rfl, rfl, eI_wrap (by omega) (by omega) (by omega), trivial⟩, fun i h1 hi => ?_, rfl⟩
      rcases Nat.lt_or_ge i k with c | c
      · exact hall i h1 c
      · obtain rfl : i = k := by omega
        exact he
  · have hge : k = a.length := by simp at hc; omega
    (repeat (first | refine AC.seq ?_ | refine AC.block ?_ | refine AC.skip ?_ | refine AC.exit ?_))
    (repeat (first | refine AC.seq ?_ | refine AC.block ?_ | refine AC.skip ?_))
    refine AC.region ?_
    refine AOps.step rfl rfl ?_
    refine AOp.of_run (ARun.mvV (.inr rfl) rfl) ?_
    refine AOps.nil ?_
    refine AC.ret (ARes.one rfl (RV.V rfl) ⟨⟨-1, rfl, ?_⟩, rfl⟩)
    refine ⟨fun q => by omega, fun q => ?_⟩
    obtain ⟨i, hi, e⟩ := List.getElem_of_mem q
    exact absurd e.symm (hall i hi (by omega))

set_option maxRecDepth 10000 in
theorem Contains_spec (a : List Int) (x : Int) (h : AHeap) (ha : a.length ≤ 1000000000) : Sp Try.prog 82 [eIs a, eI x] h (fun r h' => r = eB (decide (x ∈ a)) ∧ h' = h) := by
  refine Sp.of Try.func82 rfl rfl (by show 2 ≤ 9; decide) ?_
  (repeat (first | refine AC.seq ?_ | refine AC.block ?_ | refine AC.skip ?_))
  refine AC.region ?_
  refine AOps.step rfl rfl ?_
  refine AOp.of_run (ARun.mvV (.inr rfl) rfl) ?_
  refine AOps.nil ?_
  (repeat (first | refine AC.seq ?_ | refine AC.block ?_ | refine AC.skip ?_))
  refine AC.region ?_
  refine AOps.step rfl rfl ?_
  refine AOp.of_run (ARun.mvL (.inl rfl) rfl) ?_
  refine AOps.step rfl rfl ?_
  refine AOp.of_run (ARun.mvV (.inl rfl) rfl) ?_
  refine AOps.step rfl rfl (AOp.call_ rfl rfl ((Index_spec a x h ha).mono ?_))
  rintro _ _ ⟨⟨i, rfl, hi⟩, rfl⟩
  refine AOps.step rfl rfl ?_
  refine AOp.of_run (ARun.geq rfl rfl rfl) ?_
  refine AOps.step rfl rfl ?_
  refine AOp.of_run (ARun.mvV (.inr rfl) rfl) ?_
  refine AOps.nil ?_
  refine AC.ret (ARes.one rfl (RV.V rfl) ⟨?_, rfl⟩)
  exact congrArg eB (decide_eq_decide.2 hi)

set_option maxRecDepth 10000 in
theorem Equal_spec (a b : List Int) (h : AHeap) (ha : a.length ≤ 1000000000) : Sp Try.prog 89 [eIs a, eIs b] h (fun x h' => x = eB (decide (a = b)) ∧ h' = h) := by
  refine Sp.of Try.func89 rfl rfl (by show 2 ≤ 26; decide) ?_
  (repeat (first | refine AC.seq ?_ | refine AC.block ?_ | refine AC.skip ?_))
  refine AC.region ?_
  refine AOps.step rfl rfl ?_
  refine AOp.of_run (ARun.mvV (.inr rfl) rfl) ?_
  refine AOps.nil ?_
  (repeat (first | refine AC.seq ?_ | refine AC.block ?_ | refine AC.skip ?_))
  refine AC.region ?_
  refine AOps.step rfl rfl ?_
  refine AOp.of_run (ARun.mvL (.inl rfl) rfl) ?_
  refine AOps.step rfl rfl ?_
  refine AOp.of_run (ARun.lenL rfl rfl) ?_
  refine AOps.step rfl rfl ?_
  refine AOp.of_run (ARun.mvL (.inl rfl) rfl) ?_
  refine AOps.step rfl rfl ?_
  refine AOp.of_run (ARun.lenL rfl rfl) ?_
  refine AOps.step rfl rfl ?_
  refine AOp.of_run (ARun.neq rfl rfl rfl) ?_
  refine AOps.nil ?_
  (repeat (first | refine AC.seq ?_ | refine AC.block ?_ | refine AC.skip ?_)); refine AC.cond rfl (fun hc => ?_) (fun hc => ?_)
  · (repeat (first | refine AC.seq ?_ | refine AC.block ?_ | refine AC.skip ?_))
    refine AC.region ?_
    refine AOps.step rfl rfl ?_
    refine AOp.of_run (ARun.mvV (.inr rfl) rfl) ?_
    refine AOps.nil ?_
    refine AC.ret (ARes.one rfl (RV.V rfl) ⟨?_, rfl⟩)
    have : a ≠ b := fun e => by subst e; simp at hc
    simp [eB, this]
  have hl : a.length = b.length := by simp at hc; omega
  (repeat (first | refine AC.seq ?_ | refine AC.block ?_ | refine AC.skip ?_))
  refine AC.region ?_
  refine AOps.step rfl rfl ?_
  refine AOp.of_run (ARun.mvL (.inl rfl) rfl) ?_
  refine AOps.step rfl rfl ?_
  refine AOp.of_run (ARun.lenL rfl rfl) ?_
  refine AOps.step rfl rfl ?_
  refine AOp.of_run (ARun.mvV (.inl rfl) rfl) ?_
  refine AOps.nil ?_
  (repeat (first | refine AC.seq ?_ | refine AC.block ?_ | refine AC.skip ?_ | refine AC.exit ?_))
  refine AC.loop (fun m τ h' => ∃ k, k ≤ a.length ∧ m = a.length - k ∧ Slots τ [(0, eIs a), (1, eIs b), (12, eI a.length), (13, eI k)] ∧ (∀ i (h1 : i < a.length) (h2 : i < b.length), i < k → a[i] = b[i]) ∧ h' = h) a.length ?_ ?_
  · exact ⟨0, Nat.zero_le _, rfl, ⟨rfl, rfl, rfl, rfl, trivial⟩, fun i _ _ hi => absurd hi (Nat.not_lt_zero _), rfl⟩
  rintro m τ h' ⟨k, hk, rfl, hs, hall, rfl⟩
  obtain ⟨t0, rfl⟩ := hs.open_
  (repeat (first | refine AC.seq ?_ | refine AC.block ?_ | refine AC.skip ?_))
  refine AC.region ?_
  refine AOps.step rfl rfl ?_
  refine AOp.of_run (ARun.lss rfl rfl rfl) ?_
  refine AOps.nil ?_
  (repeat (first | refine AC.seq ?_ | refine AC.block ?_ | refine AC.skip ?_)); refine AC.cond rfl (fun hc => ?_) (fun hc => ?_)
  · have hlt : k < a.length := by simpa using hc
    have hlt2 : k < b.length := by omega
    (repeat (first | refine AC.seq ?_ | refine AC.block ?_ | refine AC.skip ?_ | refine AC.exit ?_))
    (repeat (first | refine AC.seq ?_ | refine AC.block ?_ | refine AC.skip ?_))
    refine AC.region ?_
    refine AOps.step rfl rfl ?_
    refine AOp.of_run (ARun.mvV (.inl rfl) rfl) ?_
    refine AOps.step rfl rfl ?_
    refine AOp.of_run (ARun.mvV (.inr rfl) rfl) ?_
    refine AOps.nil ?_
    (repeat (first | refine AC.seq ?_ | refine AC.block ?_ | refine AC.skip ?_))
    refine AC.drawnH [0, 1, 2, 3, 4, 5, 6, 7, 8] [3, 7] [0, 1, 2, 3, 4, 5, 6, 7, 8] mixed (by kernel_rfl) ?_
    refine RunA.pure rfl rfl rfl rfl rfl (fun _ => ARun.mvL (.inl rfl) rfl) ?_
    refine RunA.pure rfl rfl rfl rfl rfl (fun _ => ARun.mvV (.inl rfl) rfl) ?_
    refine RunA.pure rfl rfl rfl rfl rfl (fun _ => ARun.indexAddrL rfl rfl rfl (by omega) (by omega)) ?_
    refine RunA.calm rfl rfl rfl rfl rfl (HSub.refl _) (fun _ hsub => ARun.loadL rfl rfl (get_map hlt)) ?_
    refine RunA.pure rfl rfl rfl rfl rfl (fun _ => ARun.mvL (.inl rfl) rfl) ?_
    refine RunA.pure rfl rfl rfl rfl rfl (fun _ => ARun.mvV (.inl rfl) rfl) ?_
    refine RunA.pure rfl rfl rfl rfl rfl (fun _ => ARun.indexAddrL rfl rfl rfl (by omega) (by omega)) ?_
    refine RunA.calm rfl rfl rfl rfl rfl (HSub.refl _) (fun _ hsub => ARun.loadL rfl rfl (get_map hlt2)) ?_
    refine RunA.pure rfl rfl rfl rfl rfl (fun _ => ARun.neq rfl rfl rfl) ?_
    refine RunA.nil ?_
    (repeat (first | refine AC.seq ?_ | refine AC.block ?_ | refine AC.skip ?_)); refine AC.cond rfl (fun hc => ?_) (fun hc => ?_)
    · (repeat (first | refine AC.seq ?_ | refine AC.block ?_ | refine AC.skip ?_))
      refine AC.region ?_
      refine AOps.step rfl rfl ?_
      refine AOp.of_run (ARun.mvV (.inr rfl) rfl) ?_
      refine AOps.nil ?_
      refine AC.ret (ARes.one rfl (RV.V rfl) ⟨?_, rfl⟩)
      have : a ≠ b := fun e => by subst e; simp at hc
      simp [eB, this]
    · have he : a[k] = b[k] := by simpa using hc
      (repeat (first | refine AC.seq ?_ | refine AC.block ?_ | refine AC.skip ?_ | refine AC.exit ?_))
      (repeat (first | refine AC.seq ?_ | refine AC.block ?_ | refine AC.skip ?_))
      refine AC.region ?_
      refine AOps.step rfl rfl ?_
      refine AOp.of_run (ARun.add rfl rfl rfl) ?_
      refine AOps.step rfl rfl ?_
      refine AOp.of_run (ARun.mvV (.inl rfl) rfl) ?_
      refine AOps.nil ?_
      refine ⟨_, by omega, k + 1, hlt, rfl, ⟨rfl, rfl, rfl, eI_wrap (by omega) (by omega) (by omega), trivial⟩, fun i h1 h2 hi => ?_, rfl⟩
      rcases Nat.lt_or_ge i k with c | c
      · exact hall i h1 h2 c
      · obtain rfl : i = k := by omega
        exact he
  · have hge : k = a.length := by simp at hc; omega
    (repeat (first | refine AC.seq ?_ | refine AC.block ?_ | refine AC.skip ?_ | refine AC.exit ?_))
    (repeat (first | refine AC.seq ?_ | refine AC.block ?_ | refine AC.skip ?_))
    refine AC.region ?_
    refine AOps.step rfl rfl ?_
    refine AOp.of_run (ARun.mvV (.inr rfl) rfl) ?_
    refine AOps.nil ?_
    refine AC.ret (ARes.one rfl (RV.V rfl) ⟨?_, rfl⟩)
    have : a = b := List.ext_getElem hl fun i h1 h2 => hall i h1 h2 (by omega)
    simp [eB, this]
end Go.Proofs.Ytilanageangegaa

/- Walks of package dom (3): Order. -/
set_option linter.unusedVariables false
namespace Go.Proofs.Ytilanageangegaa
open Go.Ab

def ptr (b : Nat) : Value := .pointer (some ⟨b, 0, none⟩)
/-- The walk's variables: met, succ, walk, left. -/
def walkV (bm bS bw bl : Nat) : Value := .func (.func 131) #[] #[ptr bm, ptr bS, ptr bw, ptr bl]
structure WalkSt (succ : List (List Int)) (h0 : AHeap) (bm bM bS bw bl : Nat) (s : DS) (hb : AHeap) (v : AVal) (es : List (Int × AVal)) (h : AHeap) : Prop where
  own : Own hb 3 1 s.2.length (s.2.map eI) v h
  hS : hb bS = some (.cells [eIss succ] 90 1)
  hm : hb bm = some (.cells [.v (.map (some bM))] 214 1)
  hM : hb bM = some (.map .i64 es)
  hw : hb bw = some (.cells [.v (walkV bm bS bw bl)] 215 1)
  hl : hb bl = some (.cells [v] 53 1)
  es : ∀ y, mget y es = if y ∈ s.1 then some (eB true) else none
  sub : HSub h0 hb
  nM : h0 bM = none
  nl : h0 bl = none
  di : DI succ.length s
  ll : s.2.length ≤ s.1.length
theorem set_ne {h : AHeap} {a b : Nat} {k l : ABlk} {m : Option ABlk} (ha : h a = some k) (hb : h b = some l) (hkl : k ≠ l) : hset h b m a = some k := by
  rw [hset_ne _ _ (fun e => hkl ?_)]
  · exact ha
  · subst e; rw [ha] at hb; exact Option.some.inj hb
theorem HSub.put {h0 h : AHeap} {b : Nat} {k : Option ABlk} (s : HSub h0 h) (hb : h0 b = none) : HSub h0 (hset h b k) := fun i l e => by
  rw [hset_ne _ _ (fun e' => by subst e'; rw [hb] at e; cases e)]; exact s i l e
theorem WalkSt.mark {succ h0 bm bM bS bw bl s hb v es h} (q : WalkSt succ h0 bm bM bS bw bl s hb v es h) {x : Int} (h1 : 0 ≤ x) (h2 : x < succ.length) (hx : x ∉ s.1) :
    WalkSt succ h0 bm bM bS bw bl (x :: s.1, s.2) (hset hb bM (some (.map .i64 (mput x (eB true) es)))) v (mput x (eB true) es) (hset h bM (some (.map .i64 (mput x (eB true) es)))) :=
  ⟨q.own.upd _ q.hM, set_ne q.hS q.hM (by simp), set_ne q.hm q.hM (by simp), hset_same _ _ _, set_ne q.hw q.hM (by simp), set_ne q.hl q.hM (by simp), fun y => by
      rw [mget_mput, q.es]
      by_cases e : y = x
      · subst e; simp
      · simp [e], HSub.put q.sub q.nM, q.nM, q.nl, ⟨List.nodup_cons.2 ⟨hx, q.di.nodup⟩, fun y hy => by
        rcases List.mem_cons.1 hy with e | e
        · subst e; exact ⟨h1, h2⟩
        · exact q.di.range y e⟩, by have := q.ll; simp; omega⟩

set_option maxRecDepth 10000 in
theorem walk_spec (succ : List (List Int)) (hn : succ.length ≤ 1000000) (hm : ∀ l ∈ succ, l.length ≤ 1000000) (h0 : AHeap) (bm bM bS bw bl : Nat) : ∀ (f : Nat) (s : DS) (hb : AHeap) (v : AVal) (es : List (Int × AVal)) (h : AHeap) (x : Int), 0 ≤ x → x < succ.length → succ.length < f + s.1.length → WalkSt succ h0 bm bM bS bw bl s hb v es h →
    Sp Try.prog 131 [eI x, .v (ptr bm), .v (ptr bS), .v (ptr bw), .v (ptr bl)] h (fun r h' => r = .tup [] ∧ ∃ hb' v' es', WalkSt succ h0 bm bM bS bw bl (visit succ f s x) hb' v' es' h') := by
  intro f
  induction f with
  | zero => intro s hb v es h x _ _ hf q; have := q.di.len; omega
  | succ f ih =>
    intro s hb v es h x hx0 hx1 hf q
    obtain ⟨k, rfl⟩ : ∃ k : Nat, x = k := ⟨x.toNat, by omega⟩
    have hk : k < succ.length := by omega
    refine Sp.of Try.func131 rfl rfl (by show 5 ≤ 29; decide) ?_
    have hmg : (mget (k : Int) es).getD (.v (.bool false)) = .v (.bool (decide ((k : Int) ∈ s.1))) := by
      rw [q.es]; by_cases e : (k : Int) ∈ s.1 <;> simp [e, eB]
    (repeat (first | refine AC.seq ?_ | refine AC.block ?_ | refine AC.skip ?_))
    refine AC.region ?_
    refine AOps.step rfl rfl (AOp.of_run (ARun.load rfl rfl (q.own.get q.hm) rfl) ?_)
    refine AOps.step rfl rfl ?_
    refine AOp.of_run (ARun.mvV (.inl rfl) rfl) ?_
    refine AOps.step rfl rfl (AOp.of_run (ARun.lookup rfl rfl rfl (q.own.get q.hM) hmg) ?_)
    refine AOps.nil ?_
    (repeat (first | refine AC.seq ?_ | refine AC.block ?_ | refine AC.skip ?_)); refine AC.cond rfl (fun hc => ?_) (fun hc => ?_)
    · have hin : (k : Int) ∈ s.1 := by simpa using hc
      refine AC.ret (ARes.none rfl ⟨rfl, hb, v, es, ?_⟩)
      unfold visit; rw [if_pos hin]; exact q
    have hin : (k : Int) ∉ s.1 := by simpa using hc
    have hmark := q.mark hx0 hx1 hin
    have hlen := hmark.di.len
    (repeat (first | refine AC.seq ?_ | refine AC.block ?_ | refine AC.skip ?_))
    refine AC.region ?_
    refine AOps.step rfl rfl (AOp.of_run (ARun.load rfl rfl (q.own.get q.hm) rfl) ?_)
    refine AOps.step rfl rfl ?_
    refine AOp.of_run (ARun.mvV (.inl rfl) rfl) ?_
    refine AOps.step rfl rfl (AOp.mapUpdate (.inl rfl) rfl rfl (q.own.get q.hM) ?_)
    refine AOps.nil ?_
    change thenA _ _ Exit.normal _ (hset h bM (some (.map .i64 (mput (k : Int) (eB true) es))))
    generalize hH : hset h bM _ = H at hmark ⊢
    (repeat (first | refine AC.seq ?_ | refine AC.block ?_ | refine AC.skip ?_ | refine AC.exit ?_))
    (repeat (first | refine AC.seq ?_ | refine AC.block ?_ | refine AC.skip ?_))
    refine AC.region ?_
    refine AOps.step rfl rfl (AOp.of_run (ARun.load rfl rfl (hmark.own.get hmark.hS) rfl) ?_)
    refine AOps.step rfl rfl ?_
    refine AOp.of_run (ARun.mvV (.inl rfl) rfl) ?_
    refine AOps.step rfl rfl (AOp.call_ rfl rfl ((inside_spec succ k hk _ hn hm).mono ?_))
    rintro _ _ ⟨rfl, rfl⟩
    have hrl : (inside succ k).length ≤ 1000000 := by
      have h1 := List.length_filter_le (fun (y : Int) => decide (0 ≤ y) && decide (y < succ.length)) (succ.getD k [])
      have h2 : succ.getD k [] = succ[k] := by simp [List.getD_eq_getElem?_getD, hk]
      have h3 := hm _ (List.getElem_mem hk)
      rw [h2] at h1; unfold inside; rw [h2]; omega
    generalize hR : inside succ k = R at *
    refine AOps.step rfl rfl ?_
    refine AOp.of_run (ARun.lenL rfl rfl) ?_
    refine AOps.step rfl rfl ?_
    refine AOp.of_run (ARun.mvV (.inl rfl) rfl) ?_
    refine AOps.nil ?_
    (repeat (first | refine AC.seq ?_ | refine AC.block ?_ | refine AC.skip ?_ | refine AC.exit ?_))
    refine AC.loop (fun m τ h' => ∃ j hb' v' es', j ≤ R.length ∧ m = R.length - j ∧ Slots τ [(0, eI k), (1, .v (ptr bm)), (2, .v (ptr bS)), (3, .v (ptr bw)), (4, .v (ptr bl)), (15, eIs R), (16, eI R.length), (17, eI j)] ∧ WalkSt succ h0 bm bM bS bw bl ((R.take j).foldl (visit succ f) ((k : Int) :: s.1, s.2)) hb' v' es' h') R.length ?_ ?_
    · exact ⟨0, _, _, _, Nat.zero_le _, rfl, ⟨rfl, rfl, rfl, rfl, rfl, rfl, rfl, rfl, trivial⟩, hmark⟩
    rintro m τ h' ⟨j, hb', v', es', hj, rfl, hs, q'⟩
    obtain ⟨t0, rfl⟩ := hs.open_
    have hRr : ∀ y ∈ R, 0 ≤ y ∧ y < succ.length := fun y hy => inside_range (x := k) (by rw [hR]; exact hy)
    have hgrow := (foldl_ok (g := visit succ f) (fun s x d a b => visit_ok succ f s x d a b) (R.take j) _ hmark.di fun y hy => hRr y (List.mem_of_mem_take hy)).2
    (repeat (first | refine AC.seq ?_ | refine AC.block ?_ | refine AC.skip ?_))
    refine AC.region ?_
    refine AOps.step rfl rfl ?_
    refine AOp.of_run (ARun.lss rfl rfl rfl) ?_
    refine AOps.nil ?_
    (repeat (first | refine AC.seq ?_ | refine AC.block ?_ | refine AC.skip ?_)); refine AC.cond rfl (fun hc => ?_) (fun hc => ?_)
    · have hlt : j < R.length := by simpa using hc
      have hy := hRr _ (List.getElem_mem hlt)
      (repeat (first | refine AC.seq ?_ | refine AC.block ?_ | refine AC.skip ?_ | refine AC.exit ?_))
      (repeat (first | refine AC.seq ?_ | refine AC.block ?_ | refine AC.skip ?_))
      refine AC.region ?_
      refine AOps.step rfl rfl ?_
      refine AOp.of_run (ARun.indexAddrL rfl rfl rfl (by omega) (by omega)) ?_
      refine AOps.step rfl rfl ?_
      refine AOp.of_run (ARun.loadL rfl rfl (get_map hlt)) ?_
      refine AOps.step rfl rfl ?_
      refine AOp.of_run (ARun.mvV (.inr rfl) rfl) ?_
      refine AOps.nil ?_
      (repeat (first | refine AC.seq ?_ | refine AC.block ?_ | refine AC.skip ?_))
      refine AC.region ?_
      refine AOps.step rfl rfl (AOp.of_run (ARun.load rfl rfl (q'.own.get q'.hw) rfl) ?_)
      refine AOps.step rfl rfl ?_
      refine AOp.of_run (ARun.mvV (.inl rfl) rfl) ?_
      refine AOps.step rfl rfl (AOp.call_ rfl rfl ((ih _ hb' v' es' h' R[j] hy.1 hy.2 (by have := hgrow.le; simp at this; omega) q').mono ?_))
      rintro _ h2 ⟨rfl, hb2, v2, es2, q2⟩
      refine AOps.nil ?_
      (repeat (first | refine AC.seq ?_ | refine AC.block ?_ | refine AC.skip ?_))
      refine AC.region ?_
      refine AOps.step rfl rfl ?_
      refine AOp.of_run (ARun.add rfl rfl rfl) ?_
      refine AOps.step rfl rfl ?_
      refine AOp.of_run (ARun.mvV (.inl rfl) rfl) ?_
      refine AOps.nil ?_
      refine ⟨_, by omega, j + 1, hb2, v2, es2, hlt, rfl, ⟨rfl, rfl, rfl, rfl, rfl, rfl, rfl, eI_wrap (by omega) (by omega) (by omega), trivial⟩, ?_⟩
      rw [foldl_take_succ _ _ hlt]; exact q2
    · have hge : j = R.length := by simp at hc; omega
      subst hge
      rw [take_all (Nat.le_refl _)] at q' hgrow
      have hll : ((R.foldl (visit succ f) ((k : Int) :: s.1, s.2)).2.length) + 1 ≤ (R.foldl (visit succ f) ((k : Int) :: s.1, s.2)).1.length := by
        have h1 := hgrow.len; have h2 := q.ll; simp at h1; omega
      generalize hT : R.foldl (visit succ f) ((k : Int) :: s.1, s.2) = T at *
      have hTl := q'.di.len
      (repeat (first | refine AC.seq ?_ | refine AC.block ?_ | refine AC.skip ?_ | refine AC.exit ?_))
      (repeat (first | refine AC.seq ?_ | refine AC.block ?_ | refine AC.skip ?_))
      refine AC.region ?_
      refine AOps.step rfl rfl (AOp.of_run (ARun.load rfl rfl (q'.own.get q'.hl) rfl) ?_)
      refine AOps.step rfl rfl ?_
      refine AOp.of_run (ARun.mvV (.inl rfl) rfl) ?_
      refine AOps.step rfl rfl ?_
      refine AOp.buildSlice rfl ?_
      refine AOps.step rfl rfl (AOp.append rfl q'.own (RdSl.ls (by rfl)) (by unfold maxLen; omega) (by omega) fun x' h2 ho2 => ?_)
      refine AOps.step rfl rfl (AOp.store1 rfl rfl (ho2.get q'.hl) (xcells_of_cell (by obtain ⟨a, c, e, _⟩ := ho2.isSlice; show cellB x' = true; rw [e]; rfl)) (by show 0 < 1; decide) ?_ (by obtain ⟨a, c, e, _⟩ := ho2.isSlice; rw [e]; rfl))
      refine AOps.nil ?_
      refine ARes.none rfl ⟨rfl, hset hb' bl (some (.cells [x'] 53 1)), x', es', ?_⟩
      have hv : visit succ (f + 1) s (k : Int) = (T.1, T.2 ++ [(k : Int)]) := by
        unfold visit; rw [if_neg hin, Int.toNat_natCast, hR, hT]
      rw [hv]
      refine ⟨?_, set_ne q'.hS q'.hl (by simp [eIss]), set_ne q'.hm q'.hl (by simp), set_ne q'.hM q'.hl (by simp), set_ne q'.hw q'.hl (by simp), hset_same _ _ _, q'.es, HSub.put q'.sub q'.nl, q'.nM, q'.nl, ⟨q'.di.nodup, q'.di.range⟩, by simp; omega⟩
      have := ho2.upd (.cells [x'] 53 1) q'.hl
      show Own _ 3 1 (T.2 ++ [(k : Int)]).length ((T.2 ++ [(k : Int)]).map eI) x' _
      rw [List.length_append, List.map_append]
      exact this

/-- The walk's variables, new. -/
def walk0 (succ : List (List Int)) (h : AHeap) (bS bM bm bl bw : Nat) : AHeap := hset (hset (hset (hset (hset h bS (some (.cells [eIss succ] 90 1))) bM (some (.map .i64 []))) bm (some (.cells [.v (.map (some bM))] 214 1))) bl (some (.cells [.v (.slice none 0 0)] 53 1))) bw (some (.cells [.v (walkV bm bS bw bl)] 215 1))

set_option maxRecDepth 10000 in
theorem Order_spec (succ : List (List Int)) (h : AHeap) (hn : succ.length ≤ 1000000) (hm : ∀ l ∈ succ, l.length ≤ 1000000) : Sp Try.prog 109 [eIss succ] h (fun r h' => r = eIs (order succ) ∧ h' = h) := by
  refine Sp.of Try.func109 rfl rfl (by show 1 ≤ 16; decide) ?_
  (repeat (first | refine AC.seq ?_ | refine AC.block ?_ | refine AC.skip ?_))
  refine AC.region ?_
  refine AOps.step rfl rfl (AOp.box rfl rfl (fun bS hbS => ?_))
  refine AOps.step rfl rfl ?_
  refine AOp.of_run (ARun.mvV (.inr rfl) rfl) ?_
  refine AOps.nil ?_
  (repeat (first | refine AC.seq ?_ | refine AC.block ?_ | refine AC.skip ?_))
  refine AC.region ?_
  refine AOps.step rfl rfl (AOp.of_run (ARun.load rfl rfl (hset_same _ _ _) rfl) ?_)
  refine AOps.step rfl rfl ?_
  refine AOp.of_run (ARun.lenL rfl rfl) ?_
  refine AOps.step rfl rfl ?_
  refine AOp.of_run (ARun.eql rfl rfl rfl) ?_
  refine AOps.nil ?_
  (repeat (first | refine AC.seq ?_ | refine AC.block ?_ | refine AC.skip ?_)); refine AC.cond rfl (fun hc => ?_) (fun hc => ?_)
  · have h0 : succ = [] := by simpa using hc
    (repeat (first | refine AC.seq ?_ | refine AC.block ?_ | refine AC.skip ?_))
    refine AC.region ?_
    refine AOps.step rfl rfl ?_
    refine AOp.of_run (ARun.mvV (.inr rfl) rfl) ?_
    refine AOps.nil ?_
    refine AC.ret (ARes.le (Le.sub (h' := h) (HSub.put (HSub.refl h) hbS)) (ARes.le (Le.freezeOwn (d := 2) (Own.nil h 3 1)) (ARes.one rfl (RV.L rfl) ⟨?_, rfl⟩)))
    subst h0; rfl
  have h0 : succ ≠ [] := by intro e; subst e; simp at hc
  have h1 : 0 < succ.length := List.length_pos_iff.2 h0
  (repeat (first | refine AC.seq ?_ | refine AC.block ?_ | refine AC.skip ?_))
  refine AC.region ?_
  refine AOps.step rfl rfl (AOp.makeMap (kk := .i64) rfl (fun bM hbM => ?_))
  refine AOps.step rfl rfl (AOp.alloc rfl (fun bm hbm => ?_))
  refine AOps.step rfl rfl (AOp.store1 rfl rfl (hset_same _ _ _) rfl (by show 0 < 1; decide) ?_)
  refine AOps.nil ?_
  (repeat (first | refine AC.seq ?_ | refine AC.block ?_ | refine AC.skip ?_))
  refine AC.region ?_
  refine AOps.step rfl rfl (AOp.alloc rfl (fun bl hbl => ?_))
  refine AOps.nil ?_
  (repeat (first | refine AC.seq ?_ | refine AC.block ?_ | refine AC.skip ?_))
  refine AC.region ?_
  refine AOps.step rfl rfl (AOp.alloc rfl (fun bw hbw => ?_))
  refine AOps.nil ?_
  (repeat (first | refine AC.seq ?_ | refine AC.block ?_ | refine AC.skip ?_))
  refine AC.region ?_
  refine AOps.step rfl rfl (AOp.of_run (ARun.makeFunc (f' := #[]) (c' := #[ptr bm, ptr bS, ptr bw, ptr bl]) rfl rfl rfl) ?_)
  refine AOps.step rfl rfl (AOp.store1 rfl rfl (hset_same _ _ _) rfl (by show 0 < 1; decide) ?_)
  refine AOps.nil ?_
  rw [hset_hset] at hbl hbw
  have n1 := fresh_ne hbM
  have p1 := fresh_peel hbM
  have n2 := fresh_ne hbm
  have n3 := fresh_ne (fresh_peel hbm)
  have n4 := fresh_ne hbl
  have n5 := fresh_ne (fresh_peel hbl)
  have n6 := fresh_ne (fresh_peel (fresh_peel hbl))
  have p6 := fresh_peel (fresh_peel (fresh_peel hbl))
  have n7 := fresh_ne hbw
  have n8 := fresh_ne (fresh_peel hbw)
  have n9 := fresh_ne (fresh_peel (fresh_peel hbw))
  have n10 := fresh_ne (fresh_peel (fresh_peel (fresh_peel hbw)))
  have p10 := fresh_peel (fresh_peel (fresh_peel (fresh_peel hbw)))
  have p3 := fresh_peel (fresh_peel hbm)
  have q : WalkSt succ h bm bM bS bw bl ([], []) (walk0 succ h bS bM bm bl bw) (.v (.slice none 0 0)) []
      (walk0 succ h bS bM bm bl bw) :=
    ⟨Own.nil _ 3 1, by simp [walk0, hset, n1.symm, n3.symm, n6.symm, n10.symm], by simp [walk0, hset, n4.symm, n8.symm], by simp [walk0, hset, n2.symm, n5.symm, n9.symm], by simp [walk0, hset], by simp [walk0, hset, n7.symm], fun y => by simp [mget], HSub.put (HSub.put (HSub.put (HSub.put (HSub.put (HSub.refl h) hbS) p1) p3) p6) p10, p1, p6, ⟨List.nodup_nil, fun y hy => by simp at hy⟩, Nat.le_refl _⟩
  rw [hset_hset, hset_hset]
  change thenA _ _ Exit.normal _ (walk0 succ h bS bM bm bl bw)
  generalize hH : walk0 succ h bS bM bm bl bw = H at q ⊢
  (repeat (first | refine AC.seq ?_ | refine AC.block ?_ | refine AC.skip ?_))
  refine AC.region ?_
  refine AOps.step rfl rfl (AOp.of_run (ARun.load rfl rfl q.hw rfl) ?_)
  refine AOps.step rfl rfl (AOp.call_ rfl rfl ((walk_spec succ hn hm h bm bM bS bw bl (succ.length + 1) ([], []) _ _ _ H 0 (by omega) (by omega) (by simp) q).mono ?_))
  rintro _ h2 ⟨rfl, hb, v, es, q2⟩
  have hcase : order succ = (visit succ (succ.length + 1) ([], []) 0).2.reverse := by unfold order; rw [if_neg h0]
  generalize hT : visit succ (succ.length + 1) ([], []) 0 = T at *
  have hl1 := q2.di.len
  have hl2 := q2.ll
  refine AOps.nil ?_
  (repeat (first | refine AC.seq ?_ | refine AC.block ?_ | refine AC.skip ?_))
  refine AC.region ?_
  refine AOps.step rfl rfl (AOp.of_run (ARun.load rfl rfl (q2.own.get q2.hl) rfl) ?_)
  refine AOps.step rfl rfl (AOp.call_ rfl rfl ((Reverse_spec q2.own (by omega) (all_map_eI _)).mono ?_))
  rintro _ h3 ⟨rfl, ho3⟩
  refine AOps.nil ?_
  (repeat (first | refine AC.seq ?_ | refine AC.block ?_ | refine AC.skip ?_))
  refine AC.region ?_
  refine AOps.step rfl rfl (AOp.of_run (ARun.load rfl rfl (ho3.get q2.hl) rfl) ?_)
  refine AOps.step rfl rfl ?_
  refine AOp.of_run (ARun.assign rfl) ?_
  refine AOps.nil ?_
  refine AC.ret (ARes.le (Le.freezeOwn (d := 2) ho3) (ARes.le (Le.sub (h' := h) q2.sub) (ARes.one rfl (RV.L rfl) ⟨?_, rfl⟩)))
  rw [hcase, ← List.map_reverse, eIs, List.length_reverse]
end Go.Proofs.Ytilanageangegaa

/- Walks of package dom (4): Reach, preds. -/
set_option linter.unusedVariables false
namespace Go.Proofs.Ytilanageangegaa
open Go.Ab

/-- Who leads to a node. -/
def predF (succ : List (List Int)) (o : List Int) (y : Int) : List Int := o.filter fun x => decide (y ∈ inside succ x.toNat)
def predM (succ : List (List Int)) (o : List Int) (k j : Nat) (x : Int) (y : Int) : List Int := predF succ (o.take k) y ++ (if y ∈ (inside succ x.toNat).take j then [x] else [])
theorem take_succ_mem {l : List Int} {j : Nat} (h : j < l.length) (y : Int) : y ∈ l.take (j + 1) ↔ y ∈ l.take j ∨ y = l[j] := by
  rw [List.take_succ_eq_append_getElem h, List.mem_append]; simp
theorem predM_zero (succ : List (List Int)) (o : List Int) (k : Nat) (x : Int) : predM succ o k 0 x = predF succ (o.take k) := by funext y; simp [predM]
theorem predM_end {succ : List (List Int)} {o : List Int} {k : Nat} (h : k < o.length) {j : Nat} (hj : (inside succ o[k].toNat).length ≤ j) : predM succ o k j o[k] = predF succ (o.take (k + 1)) := by
  funext y
  unfold predM predF
  rw [filter_take_succ _ h, take_all hj]
  by_cases c : y ∈ inside succ o[k].toNat <;> simp [c]
theorem predM_in {succ : List (List Int)} {o : List Int} (hd : o.Nodup) {k : Nat} (h : k < o.length) (j : Nat) (y : Int) : o[k] ∈ predM succ o k j o[k] y ↔ y ∈ (inside succ o[k].toNat).take j := by
  unfold predM predF
  have : o[k] ∉ o.take k := by
    intro q
    obtain ⟨i, hi, e⟩ := List.getElem_of_mem q
    have hik : i < k := by simp at hi; omega
    rw [List.getElem_take] at e
    have := (List.getElem_inj hd).1 e
    omega
  by_cases c : y ∈ (inside succ o[k].toNat).take j
  · simp [c]
  · simp only [c, if_false, List.append_nil, iff_false]
    exact fun q => this (List.mem_filter.1 q).1

set_option maxRecDepth 10000 in
theorem preds_spec (succ : List (List Int)) (o : List Int) (h : AHeap) (hn : succ.length ≤ 1000000) (hm : ∀ l ∈ succ, l.length ≤ 1000000) (ho : o.length ≤ 1000000) (hr : ∀ y ∈ o, 0 ≤ y ∧ y < succ.length) (hd : o.Nodup) :
    Sp Try.prog 119 [eIss succ, eIs o] h (fun r h' => ∃ b es, r = .v (.map (some b)) ∧ h b = none ∧ h' = hset h b (some (.map .i64 es)) ∧ ∀ y, mget y es = some (eIs (predF succ o y)) ∨ (mget y es = none ∧ predF succ o y = [])) := by
  refine Sp.of Try.func119 rfl rfl (by show 2 ≤ 42; decide) ?_
  (repeat (first | refine AC.seq ?_ | refine AC.block ?_ | refine AC.skip ?_))
  refine AC.region ?_
  refine AOps.step rfl rfl ?_
  refine AOp.of_run (ARun.mvV (.inr rfl) rfl) ?_
  refine AOps.nil ?_
  (repeat (first | refine AC.seq ?_ | refine AC.block ?_ | refine AC.skip ?_))
  refine AC.region ?_
  refine AOps.step rfl rfl (AOp.makeMap (kk := .i64) rfl (fun b hb => ?_))
  refine AOps.step rfl rfl ?_
  refine AOp.of_run (ARun.mvV (.inr rfl) rfl) ?_
  refine AOps.nil ?_
  (repeat (first | refine AC.seq ?_ | refine AC.block ?_ | refine AC.skip ?_))
  refine AC.region ?_
  refine AOps.step rfl rfl ?_
  refine AOp.of_run (ARun.mvL (.inl rfl) rfl) ?_
  refine AOps.step rfl rfl ?_
  refine AOp.of_run (ARun.lenL rfl rfl) ?_
  refine AOps.step rfl rfl ?_
  refine AOp.of_run (ARun.mvV (.inl rfl) rfl) ?_
  refine AOps.nil ?_
  (repeat (first | refine AC.seq ?_ | refine AC.block ?_ | refine AC.skip ?_ | refine AC.exit ?_))
  refine AC.loop (fun m τ h' => ∃ k es, k ≤ o.length ∧ m = o.length - k ∧ Slots τ [(0, eIss succ), (5, .v (.map (some b))), (11, eIs o), (12, eI o.length), (13, eI k)] ∧ MOwn h 3 b (predF succ (o.take k)) es h') o.length ?_ ?_
  · exact ⟨0, [], Nat.zero_le _, rfl, ⟨rfl, rfl, rfl, rfl, rfl, trivial⟩, MOwn.new hb⟩
  rintro m τ h' ⟨k, es, hk, rfl, hs, q⟩
  obtain ⟨t0, rfl⟩ := hs.open_
  (repeat (first | refine AC.seq ?_ | refine AC.block ?_ | refine AC.skip ?_))
  refine AC.region ?_
  refine AOps.step rfl rfl ?_
  refine AOp.of_run (ARun.lss rfl rfl rfl) ?_
  refine AOps.nil ?_
  (repeat (first | refine AC.seq ?_ | refine AC.block ?_ | refine AC.skip ?_)); refine AC.cond rfl (fun hc => ?_) (fun hc => ?_)
  · have hlt : k < o.length := by simpa using hc
    have hrk := hr _ (List.getElem_mem hlt)
    (repeat (first | refine AC.seq ?_ | refine AC.block ?_ | refine AC.skip ?_ | refine AC.exit ?_))
    (repeat (first | refine AC.seq ?_ | refine AC.block ?_ | refine AC.skip ?_))
    refine AC.region ?_
    refine AOps.step rfl rfl ?_
    refine AOp.of_run (ARun.indexAddrL rfl rfl rfl (by omega) (by omega)) ?_
    refine AOps.step rfl rfl ?_
    refine AOp.of_run (ARun.loadL rfl rfl (get_map hlt)) ?_
    refine AOps.step rfl rfl ?_
    refine AOp.of_run (ARun.mvV (.inr rfl) rfl) ?_
    refine AOps.nil ?_
    obtain ⟨x, hx⟩ : ∃ x : Nat, o[k] = x := ⟨o[k].toNat, by omega⟩
    (repeat (first | refine AC.seq ?_ | refine AC.block ?_ | refine AC.skip ?_))
    refine AC.region ?_
    refine AOps.step rfl rfl ?_
    refine AOp.of_run (ARun.mvL (.inl rfl) rfl) ?_
    refine AOps.step rfl rfl ?_
    refine AOp.of_run (ARun.mvV (.inl rfl) rfl) ?_
    rw [hx]
    refine AOps.step rfl rfl (AOp.call_ rfl rfl ((inside_spec succ x (by omega) _ hn hm).mono ?_))
    rintro _ _ ⟨rfl, rfl⟩
    have hrl : (inside succ x).length ≤ 1000000 := by
      have h1 := List.length_filter_le (fun (y : Int) => decide (0 ≤ y) && decide (y < succ.length)) (succ.getD x [])
      have hxs : x < succ.length := by omega
      have h2 : succ.getD x [] = succ[x] := by simp [List.getD_eq_getElem?_getD, hxs]
      have h3 := hm _ (List.getElem_mem hxs)
      rw [h2] at h1; unfold inside; rw [h2]; omega
    rw [← predM_zero succ o k x] at q
    have hend : ∀ j, (inside succ x).length ≤ j → predM succ o k j x = predF succ (o.take (k + 1)) := fun j hj => by
      have := predM_end (succ := succ) hlt (j := j) (by rw [hx, Int.toNat_natCast]; exact hj)
      rw [hx] at this; exact this
    have hin : ∀ j y, (x : Int) ∈ predM succ o k j x y ↔ y ∈ (inside succ x).take j := fun j y => by
      have := predM_in (succ := succ) hd hlt j y
      rw [hx, Int.toNat_natCast] at this; exact this
    generalize hR : inside succ x = R at *
    refine AOps.step rfl rfl ?_
    refine AOp.of_run (ARun.lenL rfl rfl) ?_
    refine AOps.step rfl rfl ?_
    refine AOp.of_run (ARun.mvV (.inl rfl) rfl) ?_
    refine AOps.nil ?_
    (repeat (first | refine AC.seq ?_ | refine AC.block ?_ | refine AC.skip ?_ | refine AC.exit ?_))
    refine AC.loop (fun m τ h' => ∃ j es, j ≤ R.length ∧ m = R.length - j ∧ Slots τ [(0, eIss succ), (5, .v (.map (some b))), (7, eI x), (11, eIs o), (12, eI o.length), (13, eI k), (19, eIs R), (20, eI R.length), (21, eI j)] ∧ MOwn h 3 b (predM succ o k j x) es h') R.length ?_ ?_
    · exact ⟨0, es, Nat.zero_le _, rfl, ⟨rfl, rfl, rfl, rfl, rfl, rfl, rfl, rfl, rfl, trivial⟩, q⟩
    rintro m τ h' ⟨j, es, hj, rfl, hs, q⟩
    obtain ⟨t0, rfl⟩ := hs.open_
    (repeat (first | refine AC.seq ?_ | refine AC.block ?_ | refine AC.skip ?_))
    refine AC.region ?_
    refine AOps.step rfl rfl ?_
    refine AOp.of_run (ARun.lss rfl rfl rfl) ?_
    refine AOps.nil ?_
    (repeat (first | refine AC.seq ?_ | refine AC.block ?_ | refine AC.skip ?_)); refine AC.cond rfl (fun hc => ?_) (fun hc => ?_)
    · have hlt2 : j < R.length := by simpa using hc
      obtain ⟨hHb, H1, ho1, hput⟩ := q.at_ R[j]
      have hlen : (predF succ (o.take k) R[j]).length ≤ k := Nat.le_trans (List.length_filter_le _ _) (by simp; omega)
      have hMl : (predM succ o k j x R[j]).length ≤ 1000001 := by
        unfold predM; rw [List.length_append]; split <;> simp <;> omega
      (repeat (first | refine AC.seq ?_ | refine AC.block ?_ | refine AC.skip ?_ | refine AC.exit ?_))
      (repeat (first | refine AC.seq ?_ | refine AC.block ?_ | refine AC.skip ?_))
      refine AC.region ?_
      refine AOps.step rfl rfl ?_
      refine AOp.of_run (ARun.indexAddrL rfl rfl rfl (by omega) (by omega)) ?_
      refine AOps.step rfl rfl ?_
      refine AOp.of_run (ARun.loadL rfl rfl (get_map hlt2)) ?_
      refine AOps.step rfl rfl ?_
      refine AOp.of_run (ARun.mvV (.inr rfl) rfl) ?_
      refine AOps.nil ?_
      (repeat (first | refine AC.seq ?_ | refine AC.block ?_ | refine AC.skip ?_))
      refine AC.region ?_
      refine AOps.step rfl rfl ?_
      refine AOp.of_run (ARun.mvV (.inl rfl) rfl) ?_
      refine AOps.step rfl rfl ?_
      refine AOp.of_run (ARun.mvV (.inl rfl) rfl) ?_
      refine AOps.step rfl rfl (AOp.of_run (ARun.lookup rfl rfl rfl hHb rfl) ?_)
      refine AOps.step rfl rfl ?_
      refine AOp.of_run (ARun.mvV (.inl rfl) rfl) ?_
      refine AOps.step rfl rfl (AOp.call_ rfl rfl ((Sp.borrow (args := [(mget R[j] es).getD (.v (.slice none 0 0)), eI x]) (h := h') (Contains_spec (predM succ o k j x R[j]) x h00 (by omega)) (fun y e => ⟨_, e⟩) rfl ?_).mono ?_))
      · intro w ok i h1 h2 v r
        match i, h1, h2 with
        | 0, _, _ => exact ho1.to00 ok r
        | 1, _, _ => exact r.to00
      rintro _ _ ⟨rfl, rfl⟩
      refine AOps.step rfl rfl ?_
      refine AOp.of_run (ARun.not rfl rfl) ?_
      refine AOps.nil ?_
      (repeat (first | refine AC.seq ?_ | refine AC.block ?_ | refine AC.skip ?_)); refine AC.cond rfl (fun hc => ?_) (fun hc => ?_)
      · have hnin : R[j] ∉ R.take j := by
          have : (x : Int) ∉ predM succ o k j x R[j] := by simpa using hc
          exact fun e => this ((hin _ _).2 e)
        have hMe : predM succ o k j x R[j] = predF succ (o.take k) R[j] := by
          unfold predM; rw [Int.toNat_natCast, hR, if_neg hnin, List.append_nil]
        (repeat (first | refine AC.seq ?_ | refine AC.block ?_ | refine AC.skip ?_))
        refine AC.region ?_
        refine AOps.step rfl rfl ?_
        refine AOp.of_run (ARun.mvV (.inl rfl) rfl) ?_
        refine AOps.step rfl rfl ?_
        refine AOp.of_run (ARun.mvV (.inl rfl) rfl) ?_
        refine AOps.step rfl rfl ?_
        refine AOp.of_run (ARun.mvV (.inl rfl) rfl) ?_
        refine AOps.step rfl rfl ?_
        refine AOp.of_run (ARun.mvV (.inl rfl) rfl) ?_
        refine AOps.step rfl rfl (AOp.of_run (ARun.lookup rfl rfl rfl hHb rfl) ?_)
        refine AOps.step rfl rfl ?_
        refine AOp.of_run (ARun.mvV (.inl rfl) rfl) ?_
        refine AOps.step rfl rfl ?_
        refine AOp.buildSlice rfl ?_
        refine AOps.step rfl rfl (AOp.append rfl ho1 (RdSl.ls (by rfl)) (by unfold maxLen; rw [hMe]; omega) (by rw [hMe]; omega) fun x' h2 ho2 => ?_)
        obtain ⟨hb2, q2⟩ := hput (predM succ o k j x R[j] ++ [(x : Int)]) x' h2 (by rw [List.length_append, List.map_append]; exact ho2)
        refine AOps.step rfl rfl (AOp.mapUpdate (.inl rfl) rfl rfl hb2 ?_)
        refine AOps.nil ?_
        (repeat (first | refine AC.seq ?_ | refine AC.block ?_ | refine AC.skip ?_ | refine AC.exit ?_))
        (repeat (first | refine AC.seq ?_ | refine AC.block ?_ | refine AC.skip ?_))
        refine AC.region ?_
        refine AOps.step rfl rfl ?_
        refine AOp.of_run (ARun.add rfl rfl rfl) ?_
        refine AOps.step rfl rfl ?_
        refine AOp.of_run (ARun.mvV (.inl rfl) rfl) ?_
        refine AOps.nil ?_
        refine ⟨_, by omega, j + 1, mput R[j] x' es, hlt2, rfl, ⟨rfl, rfl, rfl, rfl, rfl, rfl, rfl, rfl, eI_wrap (by omega) (by omega) (by omega), trivial⟩, ?_⟩
        have hf : (fun i => if i = R[j] then predM succ o k j x R[j] ++ [(x : Int)] else predM succ o k j x i) = predM succ o k (j + 1) x := by
          funext i
          by_cases e : i = R[j]
          · subst e
            rw [if_pos rfl, hMe]
            unfold predM
            rw [Int.toNat_natCast, hR, if_pos ((take_succ_mem hlt2 _).2 (.inr rfl))]
          · rw [if_neg e]
            unfold predM
            rw [Int.toNat_natCast, hR]
            congr 1
            by_cases c : i ∈ R.take j
            · rw [if_pos c, if_pos ((take_succ_mem hlt2 _).2 (.inl c))]
            · rw [if_neg c, if_neg (fun e2 => by rcases (take_succ_mem hlt2 _).1 e2 with q | q <;> contradiction)]
        rw [hf] at q2
        exact q2
      · have hyes : R[j] ∈ R.take j := by
          have : (x : Int) ∈ predM succ o k j x R[j] := by simpa using hc
          exact (hin _ _).1 this
        (repeat (first | refine AC.seq ?_ | refine AC.block ?_ | refine AC.skip ?_ | refine AC.exit ?_))
        (repeat (first | refine AC.seq ?_ | refine AC.block ?_ | refine AC.skip ?_))
        refine AC.region ?_
        refine AOps.step rfl rfl ?_
        refine AOp.of_run (ARun.add rfl rfl rfl) ?_
        refine AOps.step rfl rfl ?_
        refine AOp.of_run (ARun.mvV (.inl rfl) rfl) ?_
        refine AOps.nil ?_
        refine ⟨_, by omega, j + 1, es, hlt2, rfl, ⟨rfl, rfl, rfl, rfl, rfl, rfl, rfl, rfl, eI_wrap (by omega) (by omega) (by omega), trivial⟩, ?_⟩
        have hf : predM succ o k j x = predM succ o k (j + 1) x := by
          funext i
          unfold predM
          rw [Int.toNat_natCast, hR]
          congr 1
          by_cases c : i ∈ R.take j
          · rw [if_pos c, if_pos ((take_succ_mem hlt2 _).2 (.inl c))]
          · rw [if_neg c, if_neg (fun e2 => by
              rcases (take_succ_mem hlt2 _).1 e2 with q | q
              · exact c q
              · exact c (q ▸ hyes))]
        rw [hf] at q
        exact q
    · have hge : j = R.length := by simp at hc; omega
      (repeat (first | refine AC.seq ?_ | refine AC.block ?_ | refine AC.skip ?_ | refine AC.exit ?_))
      (repeat (first | refine AC.seq ?_ | refine AC.block ?_ | refine AC.skip ?_))
      refine AC.region ?_
      refine AOps.step rfl rfl ?_
      refine AOp.of_run (ARun.add rfl rfl rfl) ?_
      refine AOps.step rfl rfl ?_
      refine AOp.of_run (ARun.mvV (.inl rfl) rfl) ?_
      refine AOps.nil ?_
      rw [hend j (by omega)] at q
      exact ⟨_, by omega, k + 1, es, hlt, rfl, ⟨rfl, rfl, rfl, rfl, eI_wrap (by omega) (by omega) (by omega), trivial⟩, q⟩
  · have hge : k = o.length := by simp at hc; omega
    (repeat (first | refine AC.seq ?_ | refine AC.block ?_ | refine AC.skip ?_ | refine AC.exit ?_))
    (repeat (first | refine AC.seq ?_ | refine AC.block ?_ | refine AC.skip ?_))
    refine AC.region ?_
    refine AOps.step rfl rfl ?_
    refine AOp.of_run (ARun.mvV (.inl rfl) rfl) ?_
    refine AOps.step rfl rfl ?_
    refine AOp.of_run (ARun.mvV (.inr rfl) rfl) ?_
    refine AOps.nil ?_
    rw [take_all (by omega)] at q
    obtain ⟨es', hle, hb0, hes⟩ := q.freeze (n := 42)
    refine AC.ret (ARes.le hle (ARes.one rfl (RV.V rfl) ⟨b, es', rfl, hb0, rfl, hes⟩))
end Go.Proofs.Ytilanageangegaa

/- Immediate dominators by meeting (Cooper, Harvey, Kennedy), as plain Lean: it ends, and what it comes to. No program here. -/
set_option linter.unusedVariables false
namespace Go.Ab

/-- a is x, or above it. -/
inductive Anc (u : Int → Int) (a : Int) : Int → Prop
  | refl : Anc u a a
  | step {x : Int} (h0 : 0 ≤ u x) (h : Anc u a (u x)) : Anc u a x
theorem Anc.trans {u : Int → Int} {a b c : Int} (x : Anc u a b) (y : Anc u b c) : Anc u a c := by
  induction y with
  | refl => exact x
  | step h0 _ ih => exact .step h0 ih
theorem Anc.up {u : Int → Int} {a x : Int} (h : Anc u a x) (hne : a ≠ x) : 0 ≤ u x ∧ Anc u a (u x) := by
  cases h with
  | refl => exact absurd rfl hne
  | step h0 h => exact ⟨h0, h⟩
theorem Anc.one {u : Int → Int} {x : Int} (h0 : 0 ≤ u x) : Anc u (u x) x := .step h0 .refl

def Pro (u : Int → Int) (x : Int) : Prop := x = 0 ∨ 0 ≤ u x
structure Tree (o : List Int) (u : Int → Int) : Prop where
  inn : ∀ x, 0 ≤ u x → x ∈ o ∧ u x ∈ o ∧ o.idxOf (u x) < o.idxOf x
  pro : ∀ x, 0 ≤ u x → Pro u (u x)
variable {o : List Int} {u : Int → Int}
theorem Tree.le (t : Tree o u) {a x : Int} (h : Anc u a x) : o.idxOf a ≤ o.idxOf x := by
  induction h with
  | refl => exact Nat.le_refl _
  | step h0 _ ih => have := (t.inn _ h0).2.2; omega
theorem Tree.lt (t : Tree o u) {a x : Int} (h : Anc u a x) (hne : a ≠ x) : o.idxOf a < o.idxOf x := by
  obtain ⟨h0, h⟩ := h.up hne
  have := (t.inn _ h0).2.2
  have := t.le h
  omega
theorem Tree.anti (t : Tree o u) {a b : Int} (h : Anc u a b) (h2 : Anc u b a) : a = b := by
  by_cases e : a = b
  · exact e
  · have := t.lt h e; have := t.le h2; omega
theorem Tree.anc_pro (t : Tree o u) {a x : Int} (h : Anc u a x) : Pro u x → Pro u a := by
  induction h with
  | refl => exact id
  | step h0 _ ih => exact fun _ => ih (t.pro _ h0)
/-- Ancestors of one node lie on one line. -/
theorem Tree.line (t : Tree o u) {a b x : Int} (h : Anc u a x) (h2 : Anc u b x) (hle : o.idxOf a ≤ o.idxOf b) : Anc u a b := by
  induction h with
  | refl =>
    by_cases e : b = a
    · subst e; exact .refl
    · have := t.lt h2 e; omega
  | @step x h0 h ih =>
    by_cases e : b = x
    · subst e; exact .step h0 h
    · exact ih (h2.up e).2

/-- The lowest common one of all nodes of a list that have been met (−1: none has). -/
def Best (u : Int → Int) (L : List Int) (b : Int) : Prop :=
  (b = -1 ∧ ∀ y ∈ L, ¬ Pro u y) ∨ (Pro u b ∧ (∃ y ∈ L, Pro u y) ∧ (∀ y ∈ L, Pro u y → Anc u b y) ∧ ∀ c, (∀ y ∈ L, Pro u y → Anc u c y) → Anc u c b)
theorem Best.uniq (t : Tree o u) {L : List Int} {b c : Int} (x : Best u L b) (y : Best u L c) : b = c := by
  rcases x with ⟨rfl, h1⟩ | ⟨_, ⟨z, hz, hp⟩, h2, h3⟩
  · rcases y with ⟨rfl, _⟩ | ⟨_, ⟨z, hz, hp⟩, _⟩
    · rfl
    · exact absurd hp (h1 z hz)
  · rcases y with ⟨rfl, h1⟩ | ⟨_, _, h4, h5⟩
    · exact absurd hp (h1 z hz)
    · exact t.anti (h5 b h2) (h3 c h4)
/-- The common one of two. -/
def IsNca (u : Int → Int) (a b r : Int) : Prop := Pro u r ∧ Anc u r a ∧ Anc u r b ∧ ∀ c, Anc u c a → Anc u c b → Anc u c r
theorem Best.nil (u : Int → Int) : Best u [] (-1) := .inl ⟨rfl, fun y hy => by simp at hy⟩
theorem Best.skip {L : List Int} {b y : Int} (x : Best u L b) (h : ¬ Pro u y) : Best u (L ++ [y]) b := by
  have key : ∀ z, z ∈ L ++ [y] → Pro u z → z ∈ L := fun z hz hp => by
    rcases List.mem_append.1 hz with e | e
    · exact e
    · have : z = y := by simpa using e
      subst this; exact absurd hp h
  rcases x with ⟨rfl, h1⟩ | ⟨h0, ⟨z, hz, hp⟩, h2, h3⟩
  · exact .inl ⟨rfl, fun z hz hp => h1 z (key z hz hp) hp⟩
  · exact .inr ⟨h0, ⟨z, by simp [hz], hp⟩, fun z hz hp => h2 z (key z hz hp) hp, fun c hc => h3 c fun z hz hp => hc z (by simp [hz]) hp⟩
theorem Best.first {L : List Int} {y : Int} (x : Best u L (-1)) (h : Pro u y) (hy : 0 ≤ y) (hneg : u (-1) < 0) : Best u (L ++ [y]) y := by
  rcases x with ⟨_, h1⟩ | ⟨h0, _⟩
  · refine .inr ⟨h, ⟨y, by simp, h⟩, fun z hz hp => ?_, fun c hc => hc y (by simp) h⟩
    rcases List.mem_append.1 hz with e | e
    · exact absurd hp (h1 z e)
    · have : z = y := by simpa using e
      subst this; exact .refl
  · rcases h0 with e | e
    · omega
    · omega
theorem Best.meet {L : List Int} {b y r : Int} (x : Best u L b) (hb : 0 ≤ b) (h : Pro u y) (n : IsNca u b y r) : Best u (L ++ [y]) r := by
  obtain ⟨n0, n1, n2, n3⟩ := n
  rcases x with ⟨e, _⟩ | ⟨h0, ⟨z, hz, hp⟩, h2, h3⟩
  · omega
  · refine .inr ⟨n0, ⟨z, by simp [hz], hp⟩, fun z hz hp => ?_, fun c hc => n3 c (h3 c fun z hz hp => hc z (by simp [hz]) hp) (hc y (by simp) h)⟩
    rcases List.mem_append.1 hz with e | e
    · exact n1.trans (h2 z e hp)
    · have : z = y := by simpa using e
      subst this; exact n2

/-- One node hung anew. -/
def hang (u : Int → Int) (x w : Int) : Int → Int := fun i => if i = x then w else u i
theorem hang_ne (u : Int → Int) {x w i : Int} (h : i ≠ x) : hang u x w i = u i := by simp [hang, h]
theorem hang_same (u : Int → Int) (x w : Int) : hang u x w x = w := by simp [hang]
/-- What does not hang on x is as it was. -/
theorem anc_hang {x w a y : Int} (h : Anc u a y) (hx : ¬ Anc u x y) : Anc (hang u x w) a y := by
  induction h with
  | refl => exact .refl
  | @step y h0 h ih =>
    have hne : y ≠ x := fun e => hx (e ▸ .refl)
    have e := hang_ne u (w := w) hne
    exact .step (by rw [e]; exact h0) (by rw [e]; exact ih fun q => hx (.step h0 q))
theorem anc_hang_back (t : Tree o u) {x w a y : Int} (h : Anc (hang u x w) a y) (hx : ¬ Anc u x y) : Anc u a y := by
  induction h with
  | refl => exact .refl
  | @step y h0 h ih =>
    have hne : y ≠ x := fun e => hx (e ▸ .refl)
    rw [hang_ne u hne] at h0 h ih
    exact .step h0 (ih fun q => hx (.step h0 q))
end Go.Ab

/- Immediate dominators by meeting: the passes. No program here. -/
set_option linter.unusedVariables false
namespace Go.Ab

/-- A graph's order and who leads where. -/
structure Gr (o : List Int) (P : Int → List Int) : Prop where
  pos : ∀ y ∈ o, 0 ≤ y
  nodup : o.Nodup
  head : o[0]? = some 0
  inn : ∀ x ∈ o, ∀ p ∈ P x, p ∈ o
  par : ∀ x ∈ o, x ≠ 0 → ∃ p ∈ P x, o.idxOf p < o.idxOf x
variable {o : List Int} {P : Int → List Int}
theorem idx_getElem (hd : o.Nodup) {k : Nat} (hk : k < o.length) : o.idxOf o[k] = k := hd.idxOf_getElem k hk
theorem Gr.zero (g : Gr o P) : o.idxOf 0 = 0 := by
  obtain ⟨h, e⟩ := List.getElem?_eq_some_iff.1 g.head
  have := idx_getElem g.nodup h
  rw [e] at this; exact this
theorem Gr.mem0 (g : Gr o P) : (0 : Int) ∈ o := List.mem_of_getElem? g.head
theorem Gr.inj (g : Gr o P) {x y : Int} (hx : x ∈ o) (hy : y ∈ o) (e : o.idxOf x = o.idxOf y) : x = y := by
  have h1 := List.getElem_idxOf (List.idxOf_lt_length_iff.2 hx)
  have h2 := List.getElem_idxOf (List.idxOf_lt_length_iff.2 hy)
  rw [← h1, ← h2]; simp only [e]
theorem Gr.posi (g : Gr o P) {x : Int} (hx : x ∈ o) (h0 : x ≠ 0) : 0 < o.idxOf x := by
  rcases Nat.eq_zero_or_pos (o.idxOf x) with e | e
  · exact absurd (g.inj hx g.mem0 (e.trans g.zero.symm)) h0
  · exact e
theorem Gr.ne0 (g : Gr o P) {x : Int} (hx : 0 < o.idxOf x) : x ≠ 0 := by
  rintro rfl; rw [g.zero] at hx; omega
theorem Tree.mem {u : Int → Int} (t : Tree o u) {a x : Int} (h : Anc u a x) : x ∈ o → a ∈ o := by
  induction h with
  | refl => exact id
  | step h0 _ ih => exact fun _ => ih (t.inn _ h0).2.1

/-- The first pass. -/
structure F1 (o : List Int) (P : Int → List Int) (z : Nat) (u : Int → Int) : Prop where
  tree : Tree o u
  un : ∀ x, z ≤ o.idxOf x ∨ x = 0 → u x < 0
  dn : ∀ x ∈ o, x ≠ 0 → o.idxOf x < z → 0 ≤ u x
  m : ∀ x ∈ o, x ≠ 0 → o.idxOf x < z → ∀ c, (∀ y ∈ P x, o.idxOf y < o.idxOf x → Anc u c y) → Anc u c (u x)
  f : ∀ x ∈ o, x ≠ 0 → o.idxOf x < z → ∀ p ∈ P x, o.idxOf p < o.idxOf x → Anc u (u x) p
/-- A later pass. -/
structure LP (o : List Int) (P : Int → List Int) (z : Nat) (u : Int → Int) : Prop where
  tree : Tree o u
  root : u 0 < 0
  all : ∀ x ∈ o, x ≠ 0 → 0 ≤ u x
  m : ∀ x ∈ o, x ≠ 0 → ∀ c, (∀ y ∈ P x, Anc u c y) → Anc u c (u x)
  f : ∀ x ∈ o, x ≠ 0 → o.idxOf x < z ∨ z ≤ o.idxOf (u x) → ∀ p ∈ P x, o.idxOf p < o.idxOf x → Anc u (u x) p

theorem F1.start (g : Gr o P) : F1 o P 1 (fun _ => -1) :=
  ⟨⟨fun x h => by simp at h, fun x h => by simp at h⟩, fun x _ => by decide, fun x hx h0 hz => by have := g.posi hx h0; omega, fun x hx h0 hz => by have := g.posi hx h0; omega, fun x hx h0 hz => by have := g.posi hx h0; omega⟩
theorem F1.pro (g : Gr o P) {z : Nat} {u : Int → Int} (q : F1 o P z u) (hz : 0 < z) {y : Int} (hy : y ∈ o) : Pro u y ↔ o.idxOf y < z := by
  constructor
  · rintro (e | e)
    · subst e; rw [g.zero]; exact hz
    · rcases Nat.lt_or_ge (o.idxOf y) z with c | c
      · exact c
      · have := q.un y (.inl c); omega
  · intro h
    by_cases e : y = 0
    · exact .inl e
    · exact .inr (q.dn y hy e h)
theorem F1.step (g : Gr o P) {z : Nat} {u : Int → Int} (q : F1 o P z u) (h0 : 0 < z) {x w : Int} (hx : x ∈ o) (hxz : o.idxOf x = z) (b : Best u (P x) w) : F1 o P (z + 1) (hang u x w) ∧ w ∈ o := by
  have hx0 : x ≠ 0 := g.ne0 (by omega)
  have hnx : ¬ Pro u x := fun e => by have := (q.pro g h0 hx).1 e; omega
  have hnot : ∀ {y}, Pro u y → ¬ Anc u x y := fun hp ha => hnx (q.tree.anc_pro ha hp)
  have hP : ∀ y ∈ P x, (Pro u y ↔ o.idxOf y < o.idxOf x) := fun y hy => by rw [hxz]; exact q.pro g h0 (g.inn x hx y hy)
  obtain ⟨p, hp, hpi⟩ := g.par x hx hx0
  have hpo := g.inn x hx p hp
  rcases b with ⟨_, hb⟩ | ⟨b0, _, b2, b3⟩
  · exact absurd ((hP p hp).2 hpi) (hb p hp)
  have hwp := b2 p hp ((hP p hp).2 hpi)
  have hwo : w ∈ o := q.tree.mem hwp hpo
  have hwi : o.idxOf w < z := by have := q.tree.le hwp; omega
  have hw0 : 0 ≤ w := g.pos w hwo
  have hne : ∀ {y}, y ∈ o → o.idxOf y < z → y ≠ x := fun _ h e => by subst e; omega
  have hproup : ∀ y, 0 ≤ u y → u y ≠ x := fun y h e => hnx (e ▸ q.tree.pro y h)
  refine ⟨⟨⟨fun i hi => ?_, fun i hi => ?_⟩, fun i hi => ?_, fun i hi h0i hz => ?_, fun i hi h0i hz c hc => ?_, fun i hi h0i hz p' hp' hpi' => ?_⟩, hwo⟩
  · by_cases e : i = x
    · subst e; rw [hang_same]; exact ⟨hx, hwo, by omega⟩
    · rw [hang_ne u e] at hi ⊢; exact q.tree.inn i hi
  · by_cases e : i = x
    · subst e; rw [hang_same]
      rcases b0 with e | e
      · exact .inl e
      · exact .inr (by rw [hang_ne u (hne hwo hwi)]; exact e)
    · rw [hang_ne u e] at hi ⊢
      rcases q.tree.pro i hi with e2 | e2
      · exact .inl e2
      · exact .inr (by rw [hang_ne u (hproup i hi)]; exact e2)
  · have e : i ≠ x := by
      rintro rfl
      rcases hi with h | h
      · omega
      · exact hx0 h
    rw [hang_ne u e]
    exact q.un i (hi.imp (fun h => by omega) id)
  · by_cases e : i = x
    · subst e; rw [hang_same]; exact hw0
    · rw [hang_ne u e]
      refine q.dn i hi h0i ?_
      rcases Nat.lt_or_ge (o.idxOf i) z with c | c
      · exact c
      · exact absurd (g.inj hi hx (by omega)) e
  · by_cases e : i = x
    · subst e; rw [hang_same]
      refine anc_hang (b3 c fun y hy hp => anc_hang_back q.tree (hc y hy ((hP y hy).1 hp)) (hnot hp)) (hnot b0)
    · have hiz : o.idxOf i < z := by
        rcases Nat.lt_or_ge (o.idxOf i) z with c | c
        · exact c
        · exact absurd (g.inj hi hx (by omega)) e
      rw [hang_ne u e]
      refine anc_hang (q.m i hi h0i hiz c fun y hy hyi => anc_hang_back q.tree (hc y hy hyi) (hnot ((q.pro g h0 (g.inn i hi y hy)).2 (by omega)))) (hnot (q.tree.pro i (q.dn i hi h0i hiz)))
  · by_cases e : i = x
    · subst e; rw [hang_same]
      exact anc_hang (b2 p' hp' ((hP p' hp').2 hpi')) (hnot ((hP p' hp').2 hpi'))
    · have hiz : o.idxOf i < z := by
        rcases Nat.lt_or_ge (o.idxOf i) z with c | c
        · exact c
        · exact absurd (g.inj hi hx (by omega)) e
      rw [hang_ne u e]
      exact anc_hang (q.f i hi h0i hiz p' hp' hpi') (hnot ((q.pro g h0 (g.inn i hi p' hp')).2 (by omega)))
theorem F1.done (g : Gr o P) {u : Int → Int} (q : F1 o P o.length u) : LP o P 1 u :=
  ⟨q.tree, q.un 0 (.inr rfl), fun x hx h0 => q.dn x hx h0 (List.idxOf_lt_length_iff.2 hx), fun x hx h0 c hc => q.m x hx h0 (List.idxOf_lt_length_iff.2 hx) c fun y hy _ => hc y hy, fun x hx h0 _ => q.f x hx h0 (List.idxOf_lt_length_iff.2 hx)⟩
theorem LP.again {u : Int → Int} (q : LP o P o.length u) : LP o P 1 u := ⟨q.tree, q.root, q.all, q.m, fun x hx h0 _ => q.f x hx h0 (.inl (List.idxOf_lt_length_iff.2 hx))⟩
theorem LP.step (g : Gr o P) {z : Nat} {u : Int → Int} (q : LP o P z u) {x w : Int} (hx : x ∈ o) (hx0 : x ≠ 0) (hxz : o.idxOf x = z) (b : Best u (P x) w) : LP o P (z + 1) (hang u x w) ∧ w ∈ o ∧ Anc u w (u x) := by
  have hpro : ∀ y ∈ o, Pro u y := fun y hy => by
    by_cases e : y = 0
    · exact .inl e
    · exact .inr (q.all y hy e)
  have hP : ∀ y ∈ P x, Pro u y := fun y hy => hpro y (g.inn x hx y hy)
  obtain ⟨p, hp, hpi⟩ := g.par x hx hx0
  rcases b with ⟨_, hb⟩ | ⟨b0, _, b2, b3⟩
  · exact absurd (hP p hp) (hb p hp)
  have hwu : Anc u w (u x) := q.m x hx hx0 w fun y hy => b2 y hy (hP y hy)
  have hux := q.all x hx hx0
  have huo := q.tree.inn x hux
  have hwo : w ∈ o := q.tree.mem hwu huo.2.1
  have hwi : o.idxOf w < o.idxOf x := by have := q.tree.le hwu; omega
  have hwne : w ≠ x := by rintro rfl; omega
  have sub : ∀ {a y}, Anc (hang u x w) a y → Anc u a y := by
    intro a y h
    induction h with
    | refl => exact .refl
    | @step y h0 h ih =>
      by_cases e : y = x
      · subst e; rw [hang_same] at ih; exact .step hux (ih.trans hwu)
      · rw [hang_ne u e] at ih h0; exact .step h0 ih
  have keep2 : ∀ {a y}, Anc u a y → o.idxOf x ≤ o.idxOf a → Anc (hang u x w) a y := by
    intro a y h hle
    induction h with
    | refl => exact .refl
    | @step y h0 h ih =>
      have e : y ≠ x := by
        rintro rfl
        have := q.tree.le h; have := (q.tree.inn _ h0).2.2; omega
      exact .step (by rw [hang_ne u e]; exact h0) (by rw [hang_ne u e]; exact ih)
  have notAnc : ∀ {y}, o.idxOf y < o.idxOf x → ¬ Anc u x y := fun hlt ha => by have := q.tree.le ha; omega
  have tree' : Tree o (hang u x w) := by
    refine ⟨fun i hi => ?_, fun i hi => ?_⟩
    · by_cases e : i = x
      · subst e; rw [hang_same]; exact ⟨hx, hwo, hwi⟩
      · rw [hang_ne u e] at hi ⊢; exact q.tree.inn i hi
    · have key : ∀ y ∈ o, Pro (hang u x w) y := fun y hy => by
        by_cases e0 : y = 0
        · exact .inl e0
        · by_cases e : y = x
          · subst e; exact .inr (by rw [hang_same]; exact g.pos w hwo)
          · exact .inr (by rw [hang_ne u e]; exact q.all y hy e0)
      by_cases e : i = x
      · subst e; rw [hang_same]; exact key w hwo
      · rw [hang_ne u e] at hi ⊢; exact key _ (q.tree.inn i hi).2.1
  refine ⟨⟨tree', by rw [hang_ne u (Ne.symm hx0)]; exact q.root, fun i hi h0 => ?_, fun i hi h0 c hc => ?_, fun i hi h0 hor p' hp' hpi' => ?_⟩, hwo, hwu⟩
  · by_cases e : i = x
    · subst e; rw [hang_same]; exact g.pos w hwo
    · rw [hang_ne u e]; exact q.all i hi h0
  · by_cases e : i = x
    · subst e; rw [hang_same]
      exact anc_hang (b3 c fun y hy _ => sub (hc y hy)) (notAnc hwi)
    · rw [hang_ne u e]
      have hcu := q.m i hi h0 c fun y hy => sub (hc y hy)
      by_cases hax : Anc u x (u i)
      · obtain ⟨p', hp', hpi'⟩ := g.par i hi h0
        have hui : o.idxOf x ≤ o.idxOf (u i) := q.tree.le hax
        have h1 := q.f i hi h0 (.inr (by omega)) p' hp' hpi'
        exact tree'.line (hc p' hp') (keep2 h1 hui) (q.tree.le hcu)
      · exact anc_hang hcu hax
  · by_cases e : i = x
    · subst e; rw [hang_same]
      exact anc_hang (b2 p' hp' (hP p' hp')) (notAnc hpi')
    · rw [hang_ne u e] at hor ⊢
      rcases hor with hlt | hge
      · have hiz : o.idxOf i < z := by
          rcases Nat.lt_or_ge (o.idxOf i) z with c | c
          · exact c
          · exact absurd (g.inj hi hx (by omega)) e
        exact anc_hang (q.f i hi h0 (.inl hiz) p' hp' hpi') (notAnc (by omega))
      · exact keep2 (q.f i hi h0 (.inr (by omega)) p' hp' hpi') (by omega)
end Go.Ab

/- Immediate dominators by meeting: nothing that lies on every way is lost. No program here. -/
set_option linter.unusedVariables false
namespace Go.Ab

/-- A way from node 0. -/
inductive Way (S : Int → Int → Prop) : List Int → Int → Prop
  | start : Way S [0] 0
  | go {l x y} (w : Way S l x) (h : S x y) : Way S (l ++ [y]) y
/-- One goes from x to y. -/
def Ed (o : List Int) (P : Int → List Int) (x y : Int) : Prop := y ∈ o ∧ x ∈ P y
/-- a lies on every way to y. -/
def Doms (o : List Int) (P : Int → List Int) (a y : Int) : Prop := ∀ l, Way (Ed o P) l y → a ∈ l
/-- A way from x, behind which all nodes come later than b. -/
inductive Late (o : List Int) (P : Int → List Int) (b : Nat) (x : Int) : List Int → Int → Prop
  | nil : Late o P b x [] x
  | go {l y z} (w : Late o P b x l y) (h : Ed o P y z) (hb : b < o.idxOf z) : Late o P b x (l ++ [z]) z
variable {o : List Int} {P : Int → List Int}
theorem Late.mem {b : Nat} {x y : Int} {l : List Int} (w : Late o P b x l y) : ∀ z ∈ l, b < o.idxOf z := by
  induction w with
  | nil => intro z hz; simp at hz
  | go w h hb ih =>
    intro z hz
    rcases List.mem_append.1 hz with e | e
    · exact ih z e
    · simp only [List.mem_singleton] at e
      rw [e]; exact hb
theorem Late.way {b : Nat} {x y : Int} {l m : List Int} (w : Late o P b x l y) (v : Way (Ed o P) m x) : Way (Ed o P) (m ++ l) y := by
  induction w with
  | nil => simpa using v
  | go w h hb ih => rw [← List.append_assoc]; exact .go ih h
theorem Late.trans {b c : Nat} {x y z : Int} {l m : List Int} (w : Late o P b x l y) (hc : b ≤ c) (v : Late o P c y m z) : Late o P b x (l ++ m) z := by
  induction v with
  | nil => simpa using w
  | go v h hb ih => rw [← List.append_assoc]; exact .go ih h (by omega)
/-- What lies on every way is above, and one comes down every step of the tree by later nodes alone. -/
structure Comp (o : List Int) (P : Int → List Int) (u : Int → Int) : Prop where
  dom : ∀ y ∈ o, Pro u y → ∀ a, Doms o P a y → Anc u a y
  way : ∀ x, 0 ≤ u x → ∃ l, Late o P (o.idxOf (u x)) (u x) l x
theorem Comp.start (o : List Int) (P : Int → List Int) : Comp o P (fun _ => -1) :=
  ⟨fun y _ hp a ha => by
    have hy : y = 0 := by
      rcases hp with e | e
      · exact e
      · simp at e
    subst hy
    have : a = 0 := by simpa using ha [0] .start
    subst this; exact .refl, fun x h => by simp at h⟩
theorem Comp.chain {u : Int → Int} (c : Comp o P u) (t : Tree o u) {a x : Int} (h : Anc u a x) : ∃ l, Late o P (o.idxOf a) a l x := by
  induction h with
  | refl => exact ⟨[], .nil⟩
  | @step x h0 h ih =>
    obtain ⟨l, hl⟩ := ih
    obtain ⟨m, hm⟩ := c.way x h0
    exact ⟨l ++ m, hl.trans (t.le h) hm⟩
theorem Comp.step (g : Gr o P) {u : Int → Int} (c : Comp o P u) (t : Tree o u) {x w : Int} (hx : x ∈ o) (hwo : w ∈ o) (hwx : o.idxOf w < o.idxOf x) (b : Best u (P x) w) : Comp o P (hang u x w) := by
  have hw0 : 0 ≤ w := g.pos w hwo
  rcases b with ⟨e, _⟩ | ⟨b0, ⟨p, hp, hpp⟩, b2, b3⟩
  · omega
  have key : ∀ a, a ≠ x → Doms o P a x → Anc (hang u x w) a x := fun a hne hd => by
    have h1 : Anc u a w := b3 a fun y hy hyp => c.dom y (g.inn x hx y hy) hyp a fun l hl => by
      rcases List.mem_append.1 (hd (l ++ [x]) (.go hl ⟨hx, hy⟩)) with e | e
      · exact e
      · exact absurd (by simpa using e) hne
    have h2 : ¬ Anc u x w := fun e => by have := t.le e; omega
    exact .step (by rw [hang_same]; exact hw0) (by rw [hang_same]; exact anc_hang h1 h2)
  have low : ∀ {a y}, Anc u a y → Anc u x a → Anc (hang u x w) a y := fun {a y} h hxa => by
    induction h with
    | refl => exact .refl
    | @step y h0 h ih =>
      have hne : y ≠ x := by
        rintro rfl
        have h1 := (t.inn _ h0).2.2
        have := t.le h
        have := t.le hxa
        omega
      have e := hang_ne u (w := w) hne
      exact .step (by rw [e]; exact h0) (by rw [e]; exact ih)
  refine ⟨fun y hy hyp a ha => ?_, fun z hz => ?_⟩
  · by_cases e : y = x
    · subst e
      by_cases e2 : a = y
      · subst e2; exact .refl
      · exact key a e2 ha
    have hpy : Pro u y := hyp.imp id fun h => by rw [hang_ne u e] at h; exact h
    have h1 := c.dom y hy hpy a ha
    by_cases hxy : Anc u x y
    · rcases Nat.lt_or_ge (o.idxOf a) (o.idxOf x) with q | q
      · obtain ⟨l, hl⟩ := c.chain t hxy
        have hne : a ≠ x := by rintro rfl; omega
        refine (key a hne fun m hm => ?_).trans (low hxy .refl)
        rcases List.mem_append.1 (ha _ (hl.way hm)) with e | e
        · exact e
        · have := hl.mem a e; omega
      · exact low h1 (t.line hxy h1 q)
    · exact anc_hang h1 hxy
  · by_cases e : z = x
    · subst e
      rw [hang_same]
      obtain ⟨l, hl⟩ := c.chain t (b2 p hp hpp)
      exact ⟨l ++ [z], .go hl ⟨hx, hp⟩ hwx⟩
    · rw [hang_ne u e] at hz ⊢
      exact c.way z hz
end Go.Ab

/- Immediate dominators by meeting: it ends, and what it comes to. No program here. -/
set_option linter.unusedVariables false
namespace Go.Ab
open Classical in
/-- The lowest common one. -/
noncomputable def bestC (u : Int → Int) (L : List Int) : Int := if h : ∃ b, Best u L b then Classical.choose h else -1
theorem bestC_eq {o : List Int} {u : Int → Int} (t : Tree o u) {L : List Int} {b : Int} (h : Best u L b) : bestC u L = b := by
  have hx : ∃ b, Best u L b := ⟨b, h⟩
  unfold bestC
  rw [dif_pos hx]
  exact (Classical.choose_spec hx).uniq t h
noncomputable def stepC (P : Int → List Int) (u : Int → Int) (x : Int) : Int → Int := hang u x (bestC u (P x))
noncomputable def passC (o : List Int) (P : Int → List Int) (u : Int → Int) : Int → Int := o.tail.foldl (stepC P) u
noncomputable def iterC (o : List Int) (P : Int → List Int) : Nat → Int → Int
  | 0 => fun _ => -1
  | k + 1 => passC o P (iterC o P k)
theorem hang_id {u : Int → Int} {x w : Int} (h : u x = w) : hang u x w = u := by
  funext i; unfold hang; split
  · rename_i e; rw [e, h]
  · rfl
def phi (o : List Int) (u : Int → Int) : Nat := (o.map fun y => o.idxOf (u y)).sum
theorem sum_le : ∀ (l : List Int) (f g : Int → Nat), (∀ y ∈ l, f y ≤ g y) → (l.map f).sum ≤ (l.map g).sum
  | [], _, _, _ => Nat.le_refl _
  | x :: l, f, g, h => by
    have := sum_le l f g fun y hy => h y (by simp [hy])
    have := h x (by simp)
    simp; omega
theorem sum_lt : ∀ (l : List Int) (f g : Int → Nat), (∀ y ∈ l, f y ≤ g y) → ∀ x ∈ l, f x < g x → (l.map f).sum < (l.map g).sum
  | [], _, _, _, x, hx, _ => by simp at hx
  | y :: l, f, g, h, x, hx, hlt => by
    have h1 := sum_le l f g fun y hy => h y (by simp [hy])
    have h2 := h y (by simp)
    rcases List.mem_cons.1 hx with e | e
    · subst e; simp; omega
    · have := sum_lt l f g (fun y hy => h y (by simp [hy])) x e hlt
      simp; omega
theorem sum_const (n : Nat) : ∀ l : List Int, (l.map fun _ => n).sum = l.length * n
  | [] => by simp
  | x :: l => by simp [sum_const n l, Nat.succ_mul, Nat.add_comm]
theorem phi_le (o : List Int) (u : Int → Int) : phi o u ≤ o.length * o.length := by
  rw [← sum_const]
  exact sum_le o _ _ fun y _ => List.idxOf_le_length
theorem idxOf_neg {o : List Int} {P : Int → List Int} (g : Gr o P) {y : Int} (h : y < 0) : o.idxOf y = o.length :=
  List.idxOf_eq_length fun e => by have := g.pos y e; omega

/-- What the loop comes to. -/
structure Fin (o : List Int) (P : Int → List Int) (u : Int → Int) : Prop where
  it : ∃ k, u = iterC o P k ∧ passC o P u = u
  tree : Tree o u
  root : u 0 < 0
  all : ∀ x ∈ o, x ≠ 0 → 0 ≤ u x
  best : ∀ x ∈ o, x ≠ 0 → Best u (P x) (u x)
  comp : Comp o P u
theorem iter_fix {o : List Int} {P : Int → List Int} {k : Nat} (h : passC o P (iterC o P k) = iterC o P k) : ∀ j, iterC o P (k + j) = iterC o P k
  | 0 => rfl
  | j + 1 => by
    show passC o P (iterC o P (k + j)) = _
    rw [iter_fix h j, h]
theorem Fin.uniq {o : List Int} {P : Int → List Int} {u v : Int → Int} (a : Fin o P u) (b : Fin o P v) : u = v := by
  obtain ⟨k, rfl, hk⟩ := a.it
  obtain ⟨j, rfl, hj⟩ := b.it
  rcases Nat.le_total k j with h | h
  · have := iter_fix hk (j - k); rw [show k + (j - k) = j by omega] at this; exact this.symm
  · have := iter_fix hj (k - j); rw [show j + (k - j) = k by omega] at this; exact this

/-- At the loop's head. -/
def Head (o : List Int) (P : Int → List Int) (m : Nat) (u : Int → Int) (more : Bool) : Prop :=
  (more = true ∧ Comp o P u ∧ ∃ k, u = iterC o P k ∧ ((k = 0 ∧ m = o.length * o.length + 3) ∨ (0 < k ∧ LP o P 1 u ∧ m = phi o u + 2))) ∨ (more = false ∧ m = 0 ∧ Fin o P u)
/-- Inside a pass: z is next. -/
def PS (o : List Int) (P : Int → List Int) (m z : Nat) (u : Int → Int) (more : Bool) : Prop :=
  0 < z ∧ Comp o P u ∧ ∃ k, u = ((o.take z).tail).foldl (stepC P) (iterC o P k) ∧ (more = false → u = iterC o P k ∧ ∀ x ∈ o, x ≠ 0 → o.idxOf x < z → Best u (P x) (u x)) ∧
    ((k = 0 ∧ F1 o P z u ∧ m = o.length * o.length + 3) ∨ (0 < k ∧ LP o P z u ∧ phi o u ≤ phi o (iterC o P k) ∧ (more = true → phi o u < phi o (iterC o P k)) ∧ m = phi o (iterC o P k) + 2))
variable {o : List Int} {P : Int → List Int}
theorem Head.start (g : Gr o P) : Head o P (o.length * o.length + 3) (fun _ => -1) true := .inl ⟨rfl, Comp.start o P, 0, rfl, .inl ⟨rfl, rfl⟩⟩
theorem take_tail_one (g : Gr o P) : (o.take 1).tail = [] := by
  cases o with
  | nil => rfl
  | cons x l => rfl
theorem Head.enter (g : Gr o P) {m : Nat} {u : Int → Int} (h : Head o P m u true) : PS o P m 1 u false := by
  rcases h with ⟨_, hcp, k, rfl, h⟩ | ⟨e, _⟩
  · refine ⟨by decide, hcp, k, by rw [take_tail_one g]; rfl, fun _ => ⟨rfl, fun x hx h0 hz => by have := g.posi hx h0; omega⟩, ?_⟩
    rcases h with ⟨rfl, hm⟩ | ⟨hk, hl, hm⟩
    · exact .inl ⟨rfl, F1.start g, hm⟩
    · exact .inr ⟨hk, hl, Nat.le_refl _, (by simp), hm⟩
  · cases e
theorem PS.tree {m z : Nat} {u : Int → Int} {more : Bool} (q : PS o P m z u more) : Tree o u := by
  obtain ⟨_, _, k, _, _, ⟨_, h, _⟩ | ⟨_, h, _⟩⟩ := q
  · exact h.tree
  · exact h.tree
theorem PS.root {m z : Nat} {u : Int → Int} {more : Bool} (q : PS o P m z u more) : u 0 < 0 := by
  obtain ⟨_, _, k, _, _, ⟨_, h, _⟩ | ⟨_, h, _⟩⟩ := q
  · exact h.un 0 (.inr rfl)
  · exact h.root
theorem take_tail_succ {o : List Int} {z : Nat} (h0 : 0 < z) (hz : z < o.length) : (o.take (z + 1)).tail = (o.take z).tail ++ [o[z]] := by
  rw [List.take_succ_eq_append_getElem hz]
  cases o with
  | nil => simp at hz
  | cons x l =>
    cases z with
    | zero => omega
    | succ z => rfl
theorem PS.step (g : Gr o P) {m z : Nat} {u : Int → Int} {more : Bool} (q : PS o P m z u more) (hz : z < o.length) {w : Int} (b : Best u (P o[z]) w) :
    PS o P m (z + 1) (hang u o[z] w) (more || decide (w ≠ u o[z])) ∧ w ∈ o := by
  have t := q.tree
  obtain ⟨h0, hcp, k, hu, hmf, hcase⟩ := q
  have hx : o[z] ∈ o := List.getElem_mem hz
  have hxi : o.idxOf o[z] = z := idx_getElem g.nodup hz
  have hx0 : o[z] ≠ 0 := g.ne0 (by omega)
  have hfold : hang u o[z] w = ((o.take (z + 1)).tail).foldl (stepC P) (iterC o P k) := by
    rw [take_tail_succ h0 hz, List.foldl_append, ← hu]
    show _ = stepC P u o[z]
    rw [stepC, bestC_eq t b]
  have hm2 : (more || decide (w ≠ u o[z])) = false → hang u o[z] w = iterC o P k ∧ ∀ x ∈ o, x ≠ 0 → o.idxOf x < z + 1 → Best (hang u o[z] w) (P x) (hang u o[z] w x) := by
    intro e
    simp only [Bool.or_eq_false_iff, decide_eq_false_iff_not, Decidable.not_not] at e
    obtain ⟨e1, e2⟩ := e
    obtain ⟨h1, h2⟩ := hmf e1
    rw [hang_id e2.symm]
    refine ⟨h1, fun x hxo hx0' hxz => ?_⟩
    rcases Nat.lt_or_ge (o.idxOf x) z with c | c
    · exact h2 x hxo hx0' c
    · have : x = o[z] := g.inj hxo hx (by omega)
      subst this
      rw [← e2]; exact b
  rcases hcase with ⟨rfl, f, hm⟩ | ⟨hk, l, hle, hlt, hm⟩
  · obtain ⟨f', hw⟩ := f.step g h0 hx hxi b
    have hwx : o.idxOf w < o.idxOf o[z] := by have := f'.tree.inn o[z] (by rw [hang_same]; exact g.pos w hw); rw [hang_same] at this; exact this.2.2
    exact ⟨⟨by omega, hcp.step g t hx hw hwx b, 0, hfold, hm2, .inl ⟨rfl, f', hm⟩⟩, hw⟩
  · obtain ⟨l', hw, hanc⟩ := l.step g hx hx0 hxi b
    have hpt : ∀ y ∈ o, o.idxOf (hang u o[z] w y) ≤ o.idxOf (u y) := fun y _ => by
      by_cases e : y = o[z]
      · rw [e, hang_same]; exact t.le hanc
      · rw [hang_ne u e]; exact Nat.le_refl _
    have h1 : phi o (hang u o[z] w) ≤ phi o u := sum_le o _ _ hpt
    have hwx : o.idxOf w < o.idxOf o[z] := by have := l'.tree.inn o[z] (by rw [hang_same]; exact g.pos w hw); rw [hang_same] at this; exact this.2.2
    refine ⟨⟨by omega, hcp.step g t hx hw hwx b, k, hfold, hm2, .inr ⟨hk, l', by omega, fun e => ?_, hm⟩⟩, hw⟩
    by_cases hw2 : w = u o[z]
    · have : more = true := by simpa [hw2] using e
      have := hlt this; omega
    · have h2 : phi o (hang u o[z] w) < phi o u := sum_lt o _ _ hpt o[z] hx (by rw [hang_same]; exact t.lt hanc hw2)
      omega
theorem PS.leave (g : Gr o P) {m : Nat} {u : Int → Int} {more : Bool} (q : PS o P m o.length u more) : ∃ m', m' < m ∧ Head o P m' u more := by
  obtain ⟨h0, hcp, k, hu, hmf, hcase⟩ := q
  rw [List.take_length] at hu
  have hpass : u = passC o P (iterC o P k) := hu
  have hlp : LP o P 1 u := by
    rcases hcase with ⟨rfl, f, hm⟩ | ⟨hk, l, hle, hlt, hm⟩
    · exact f.done g
    · exact l.again
  cases more with
  | true =>
    refine ⟨phi o u + 2, ?_, .inl ⟨rfl, hcp, k + 1, hpass, .inr ⟨by omega, hlp, rfl⟩⟩⟩
    rcases hcase with ⟨rfl, f, hm⟩ | ⟨hk, l, hle, hlt, hm⟩
    · have := phi_le o u; omega
    · have := hlt rfl; omega
  | false =>
    obtain ⟨h1, h2⟩ := hmf rfl
    refine ⟨0, ?_, .inr ⟨rfl, rfl, ⟨⟨k, h1, by rw [h1]; rw [h1] at hpass; exact hpass.symm⟩, hlp.tree, hlp.root, hlp.all, fun x hx hx0 => h2 x hx hx0 (List.idxOf_lt_length_iff.2 hx), hcp⟩⟩⟩
    rcases hcase with ⟨rfl, f, hm⟩ | ⟨hk, l, hle, hlt, hm⟩ <;> omega
theorem Head.fin {m : Nat} {u : Int → Int} (h : Head o P m u false) : Fin o P u := by
  rcases h with ⟨e, _⟩ | ⟨_, _, h⟩
  · cases e
  · exact h

/-! ### Who is above lies on every way -/
theorem Fin.dom {u : Int → Int} (f : Fin o P u) {S : Int → Int → Prop} (hS : ∀ x ∈ o, ∀ y, S x y → y ∈ o ∧ x ∈ P y) (h00 : (0 : Int) ∈ o) {l : List Int} {y : Int} (w : Way S l y) : y ∈ o ∧ ∀ a, Anc u a y → a ∈ l := by
  induction w with
  | start =>
    refine ⟨h00, fun a ha => ?_⟩
    by_cases e : a = 0
    · subst e; simp
    · have := (ha.up e).1; have := f.root; omega
  | @go l x y w h ih =>
    obtain ⟨hxo, hx⟩ := ih
    obtain ⟨hyo, hxy⟩ := hS x hxo y h
    refine ⟨hyo, fun a ha => ?_⟩
    by_cases e : a = y
    · subst e; simp
    · have h1 := (ha.up e)
      have hy0 : y ≠ 0 := by rintro rfl; have := f.root; omega
      have hp : Pro u x := by
        by_cases e : x = 0
        · exact .inl e
        · exact .inr (f.all x hxo e)
      rcases f.best y hyo hy0 with ⟨e2, _⟩ | ⟨_, _, b2, _⟩
      · omega
      · exact List.mem_append_left _ (hx a (h1.2.trans (b2 x hxy hp)))
end Go.Ab

/- Walks of package dom (5): meet. -/
set_option linter.unusedVariables false
namespace Go.Proofs.Ytilanageangegaa
open Go.Ab

def upf (U : List Int) (y : Int) : Int := if y < 0 then -1 else U.getD y.toNat (-1)
theorem upf_get {U : List Int} {y : Int} (h0 : 0 ≤ y) (h1 : y < U.length) : (U.map eI)[0 + y.toNat * 1]? = some (eI (upf U y)) := by
  have h2 : y.toNat < U.length := by omega
  rw [Nat.zero_add, Nat.mul_one, List.getElem?_map, List.getElem?_eq_getElem h2]
  unfold upf
  rw [if_neg (by omega), List.getD_eq_getElem?_getD, List.getElem?_eq_getElem h2]; rfl
theorem upf_set {U : List Int} {x w : Int} (h0 : 0 ≤ x) (h1 : x < U.length) : upf (U.set x.toNat w) = hang (upf U) x w := by
  funext i
  unfold upf hang
  by_cases e : i = x
  · subst e
    rw [if_neg (by omega), if_pos rfl, List.getD_eq_getElem?_getD, List.getElem?_set_self (by omega)]; rfl
  · rw [if_neg e]
    show (if i < 0 then (-1 : Int) else (U.set x.toNat w).getD i.toNat (-1)) = if i < 0 then -1 else U.getD i.toNat (-1)
    by_cases hi : i < 0
    · rw [if_pos hi, if_pos hi]
    · rw [if_neg hi, if_neg hi, List.getD_eq_getElem?_getD, List.getElem?_set_ne (by omega), ← List.getD_eq_getElem?_getD]

/-- Idom's variables: places and the tree. -/
structure IdSt (o : List Int) (n : Nat) (U : List Int) (bp bM bu bU : Nat) (es : List (Int × AVal)) (h : AHeap) : Prop where
  hp : h bp = some (.cells [.v (.map (some bM))] 189 1)
  hM : h bM = some (.map .i64 es)
  hu : h bu = some (.cells [.v (.slice (some ⟨bU, 0, none⟩) n n)] 53 1)
  hU : h bU = some (.cells (U.map eI) 3 n)
  pl : ∀ y ∈ o, (mget y es).getD (.v (.int .i64 0)) = eI (o.idxOf y)
  len : U.length = n
  rg : ∀ y ∈ o, 0 ≤ y ∧ y < n

set_option maxRecDepth 10000 in
theorem meet_spec {o : List Int} {n : Nat} {U : List Int} {bp bM bu bU : Nat} {es : List (Int × AVal)} {h : AHeap} (q : IdSt o n U bp bM bu bU es h) (hnd : o.Nodup) (h0i : o.idxOf 0 = 0) (t : Tree o (upf U)) (a b : Int) (ha : a ∈ o) (hb : b ∈ o) (pa : Pro (upf U) a) (pb : Pro (upf U) b) :
    Sp Try.prog 120 [eI a, eI b, .v (ptr bp), .v (ptr bu)] h (fun r h' => (∃ x, r = eI x ∧ x ∈ o ∧ IsNca (upf U) a b x) ∧ h' = h) := by
  have hlen := q.len
  have inj : ∀ {x y : Int}, x ∈ o → y ∈ o → o.idxOf x = o.idxOf y → x = y := fun hx hy e => by
    have h1 := List.getElem_idxOf (List.idxOf_lt_length_iff.2 hx)
    have h2 := List.getElem_idxOf (List.idxOf_lt_length_iff.2 hy)
    rw [← h1, ← h2]; simp only [e]
  -- one step up
  have up1 : ∀ {x y : Int}, x ∈ o → y ∈ o → Pro (upf U) x → o.idxOf y < o.idxOf x → upf U x ∈ o ∧ Pro (upf U) (upf U x) ∧ o.idxOf (upf U x) < o.idxOf x ∧ 0 ≤ upf U x := fun {x y} hx hy px hlt => by
    have h0 : 0 ≤ upf U x := by
      rcases px with e | e
      · subst e; omega
      · exact e
    exact ⟨(t.inn x h0).2.1, t.pro x h0, (t.inn x h0).2.2, h0⟩
  refine Sp.of Try.func120 rfl rfl (by show 4 ≤ 33; decide) ?_
  (repeat (first | refine AC.seq ?_ | refine AC.block ?_ | refine AC.skip ?_))
  refine AC.region ?_
  refine AOps.step rfl rfl ?_
  refine AOp.of_run (ARun.mvV (.inr rfl) rfl) ?_
  refine AOps.nil ?_
  (repeat (first | refine AC.seq ?_ | refine AC.block ?_ | refine AC.skip ?_ | refine AC.exit ?_))
  refine AC.loop (fun m τ h' => ∃ a' b', m = o.idxOf a' + o.idxOf b' ∧ Slots τ [(0, eI a'), (1, eI b'), (2, .v (ptr bp)), (3, .v (ptr bu))] ∧ a' ∈ o ∧ b' ∈ o ∧ Pro (upf U) a' ∧ Pro (upf U) b' ∧ Anc (upf U) a' a ∧ Anc (upf U) b' b ∧ (∀ c, Anc (upf U) c a → Anc (upf U) c b → Anc (upf U) c a' ∧ Anc (upf U) c b') ∧ h' = h) (o.idxOf a + o.idxOf b) ?_ ?_
  · exact ⟨a, b, rfl, ⟨rfl, rfl, rfl, rfl, trivial⟩, ha, hb, pa, pb, .refl, .refl, fun c h1 h2 => ⟨h1, h2⟩, rfl⟩
  rintro m τ h' ⟨a', b', rfl, hs, ha', hb', pa', pb', aa', bb', hc', rfl⟩
  obtain ⟨t0, rfl⟩ := hs.open_
  (repeat (first | refine AC.seq ?_ | refine AC.block ?_ | refine AC.skip ?_))
  refine AC.region ?_
  refine AOps.step rfl rfl ?_
  refine AOp.of_run (ARun.mvV (.inl rfl) rfl) ?_
  refine AOps.step rfl rfl ?_
  refine AOp.of_run (ARun.mvV (.inl rfl) rfl) ?_
  refine AOps.step rfl rfl ?_
  refine AOp.of_run (ARun.neq rfl rfl rfl) ?_
  refine AOps.nil ?_
  (repeat (first | refine AC.seq ?_ | refine AC.block ?_ | refine AC.skip ?_)); refine AC.cond rfl (fun hc => ?_) (fun hc => ?_)
  · have hne : a' ≠ b' := by simpa using hc
    (repeat (first | refine AC.seq ?_ | refine AC.block ?_ | refine AC.skip ?_ | refine AC.exit ?_))
    refine AC.loop (fun m1 τ h'' => ∃ a1, m1 = o.idxOf a1 + o.idxOf b' ∧ Slots τ [(0, eI a1), (1, eI b'), (2, .v (ptr bp)), (3, .v (ptr bu))] ∧ (a1 = a' ∨ m1 < o.idxOf a' + o.idxOf b') ∧ a1 ∈ o ∧ Pro (upf U) a1 ∧ Anc (upf U) a1 a ∧ (∀ c, Anc (upf U) c a → Anc (upf U) c b → Anc (upf U) c a1 ∧ Anc (upf U) c b') ∧ h'' = h') (o.idxOf a' + o.idxOf b') ?_ ?_
    · exact ⟨a', rfl, ⟨rfl, rfl, rfl, rfl, trivial⟩, .inl rfl, ha', pa', aa', hc', rfl⟩
    rintro m1 τ h'' ⟨a1, rfl, hs, hor, ha1, pa1, aa1, hc1, rfl⟩
    obtain ⟨t1, rfl⟩ := hs.open_
    have hra := q.rg _ ha1
    (repeat (first | refine AC.seq ?_ | refine AC.block ?_ | refine AC.skip ?_))
    refine AC.region ?_
    refine AOps.step rfl rfl (AOp.of_run (ARun.load rfl rfl q.hp rfl) ?_)
    refine AOps.step rfl rfl ?_
    refine AOp.of_run (ARun.mvV (.inl rfl) rfl) ?_
    refine AOps.step rfl rfl (AOp.of_run (ARun.lookup rfl rfl rfl q.hM (q.pl _ ha1)) ?_)
    refine AOps.step rfl rfl (AOp.of_run (ARun.load rfl rfl q.hp rfl) ?_)
    refine AOps.step rfl rfl ?_
    refine AOp.of_run (ARun.mvV (.inl rfl) rfl) ?_
    refine AOps.step rfl rfl (AOp.of_run (ARun.lookup rfl rfl rfl q.hM (q.pl _ hb')) ?_)
    refine AOps.step rfl rfl ?_
    refine AOp.of_run (ARun.gtr rfl rfl rfl) ?_
    refine AOps.nil ?_
    (repeat (first | refine AC.seq ?_ | refine AC.block ?_ | refine AC.skip ?_)); refine AC.cond rfl (fun hc => ?_) (fun hc => ?_)
    · have hlt : o.idxOf b' < o.idxOf a1 := by simpa using hc
      obtain ⟨u1, u2, u3, u4⟩ := up1 ha1 hb' pa1 hlt
      (repeat (first | refine AC.seq ?_ | refine AC.block ?_ | refine AC.skip ?_ | refine AC.exit ?_))
      (repeat (first | refine AC.seq ?_ | refine AC.block ?_ | refine AC.skip ?_))
      refine AC.region ?_
      refine AOps.step rfl rfl (AOp.of_run (ARun.load rfl rfl q.hu rfl) ?_)
      refine AOps.step rfl rfl ?_
      refine AOp.of_run (ARun.mvV (.inl rfl) rfl) ?_
      refine AOps.step rfl rfl ?_
      refine AOp.of_run (ARun.indexAddr rfl rfl rfl (by omega) (by omega)) ?_
      refine AOps.step rfl rfl (AOp.of_run (ARun.load rfl rfl q.hU (upf_get hra.1 (by omega))) ?_)
      refine AOps.step rfl rfl ?_
      refine AOp.of_run (ARun.mvV (.inr rfl) rfl) ?_
      refine AOps.nil ?_
      refine ⟨_, ?_, upf U a1, rfl, ⟨rfl, rfl, rfl, rfl, trivial⟩, .inr ?_, u1, u2, (Anc.one u4).trans aa1, fun c h1 h2 => ?_, rfl⟩
      · omega
      · rcases hor with e | e
        · subst e; omega
        · omega
      · obtain ⟨k1, k2⟩ := hc1 c h1 h2
        have : c ≠ a1 := by
          rintro rfl
          have := t.le k2; omega
        exact ⟨(k1.up this).2, k2⟩
    · have hle : o.idxOf a1 ≤ o.idxOf b' := by simpa using hc
      (repeat (first | refine AC.seq ?_ | refine AC.block ?_ | refine AC.skip ?_ | refine AC.exit ?_))
      refine AC.loop (fun m2 τ h3 => ∃ b2, m2 = o.idxOf a1 + o.idxOf b2 ∧ Slots τ [(0, eI a1), (1, eI b2), (2, .v (ptr bp)), (3, .v (ptr bu))] ∧ ((a1 = a' ∧ b2 = b') ∨ m2 < o.idxOf a' + o.idxOf b') ∧ b2 ∈ o ∧ Pro (upf U) b2 ∧ Anc (upf U) b2 b ∧ (∀ c, Anc (upf U) c a → Anc (upf U) c b → Anc (upf U) c a1 ∧ Anc (upf U) c b2) ∧ h3 = h'') (o.idxOf a1 + o.idxOf b') ?_ ?_
      · exact ⟨b', rfl, ⟨rfl, rfl, rfl, rfl, trivial⟩, hor.imp (fun e => ⟨e, rfl⟩) id, hb', pb', bb', hc1, rfl⟩
      rintro m2 τ h3 ⟨b2, rfl, hs, hor2, hb2, pb2, bb2, hc2, rfl⟩
      obtain ⟨t2, rfl⟩ := hs.open_
      have hrb := q.rg _ hb2
      (repeat (first | refine AC.seq ?_ | refine AC.block ?_ | refine AC.skip ?_))
      refine AC.region ?_
      refine AOps.step rfl rfl (AOp.of_run (ARun.load rfl rfl q.hp rfl) ?_)
      refine AOps.step rfl rfl ?_
      refine AOp.of_run (ARun.mvV (.inl rfl) rfl) ?_
      refine AOps.step rfl rfl (AOp.of_run (ARun.lookup rfl rfl rfl q.hM (q.pl _ hb2)) ?_)
      refine AOps.step rfl rfl (AOp.of_run (ARun.load rfl rfl q.hp rfl) ?_)
      refine AOps.step rfl rfl ?_
      refine AOp.of_run (ARun.mvV (.inl rfl) rfl) ?_
      refine AOps.step rfl rfl (AOp.of_run (ARun.lookup rfl rfl rfl q.hM (q.pl _ ha1)) ?_)
      refine AOps.step rfl rfl ?_
      refine AOp.of_run (ARun.gtr rfl rfl rfl) ?_
      refine AOps.nil ?_
      (repeat (first | refine AC.seq ?_ | refine AC.block ?_ | refine AC.skip ?_)); refine AC.cond rfl (fun hc => ?_) (fun hc => ?_)
      · have hlt : o.idxOf a1 < o.idxOf b2 := by simpa using hc
        obtain ⟨u1, u2, u3, u4⟩ := up1 hb2 ha1 pb2 hlt
        (repeat (first | refine AC.seq ?_ | refine AC.block ?_ | refine AC.skip ?_ | refine AC.exit ?_))
        (repeat (first | refine AC.seq ?_ | refine AC.block ?_ | refine AC.skip ?_))
        refine AC.region ?_
        refine AOps.step rfl rfl (AOp.of_run (ARun.load rfl rfl q.hu rfl) ?_)
        refine AOps.step rfl rfl ?_
        refine AOp.of_run (ARun.mvV (.inl rfl) rfl) ?_
        refine AOps.step rfl rfl ?_
        refine AOp.of_run (ARun.indexAddr rfl rfl rfl (by omega) (by omega)) ?_
        refine AOps.step rfl rfl (AOp.of_run (ARun.load rfl rfl q.hU (upf_get hrb.1 (by omega))) ?_)
        refine AOps.step rfl rfl ?_
        refine AOp.of_run (ARun.mvV (.inr rfl) rfl) ?_
        refine AOps.nil ?_
        refine ⟨_, ?_, upf U b2, rfl, ⟨rfl, rfl, rfl, rfl, trivial⟩, .inr ?_, u1, u2, (Anc.one u4).trans bb2, fun c h1 h2 => ?_, rfl⟩
        · omega
        · rcases hor2 with ⟨e, e2⟩ | e
          · subst e; subst e2; omega
          · omega
        · obtain ⟨k1, k2⟩ := hc2 c h1 h2
          have : c ≠ b2 := by
            rintro rfl
            have := t.le k1; omega
          exact ⟨k1, (k2.up this).2⟩
      · have hle2 : o.idxOf b2 ≤ o.idxOf a1 := by simpa using hc
        (repeat (first | refine AC.seq ?_ | refine AC.block ?_ | refine AC.skip ?_ | refine AC.exit ?_))
        refine ⟨o.idxOf a1 + o.idxOf b2, ?_, a1, b2, rfl, ⟨rfl, rfl, rfl, rfl, trivial⟩, ha1, hb2, pa1, pb2, aa1, bb2, hc2, rfl⟩
        rcases hor2 with ⟨e, e2⟩ | e
        · subst e; subst e2
          exact absurd (inj ha1 hb2 (by omega)) hne
        · exact e
  · have he : a' = b' := by simpa using hc
    subst he
    (repeat (first | refine AC.seq ?_ | refine AC.block ?_ | refine AC.skip ?_ | refine AC.exit ?_))
    (repeat (first | refine AC.seq ?_ | refine AC.block ?_ | refine AC.skip ?_))
    refine AC.region ?_
    refine AOps.step rfl rfl ?_
    refine AOp.of_run (ARun.mvV (.inl rfl) rfl) ?_
    refine AOps.step rfl rfl ?_
    refine AOp.of_run (ARun.mvV (.inr rfl) rfl) ?_
    refine AOps.nil ?_
    refine AC.ret (ARes.one rfl (RV.V rfl) ⟨⟨a', rfl, ha', pa', aa', bb', fun c h1 h2 => (hc' c h1 h2).1⟩, rfl⟩)
end Go.Proofs.Ytilanageangegaa

/- Walks of package dom (6): Idom. -/
set_option linter.unusedVariables false
namespace Go.Proofs.Ytilanageangegaa
open Go.Ab

theorem gr_of {succ : List (List Int)} (h0 : succ ≠ []) : Gr (order succ) (predF succ (order succ)) := by
  have q := order_ord h0
  refine ⟨fun y hy => (q.range y hy).1, q.nodup, q.head, fun x hx p hp => (List.mem_filter.1 hp).1, fun x hx hx0 => ?_⟩
  have hi := List.idxOf_lt_length_iff.2 hx
  have he : (order succ)[(order succ).idxOf x]? = some x := by rw [List.getElem?_eq_getElem hi, List.getElem_idxOf]
  have hpos : 0 < (order succ).idxOf x := by
    rcases Nat.eq_zero_or_pos ((order succ).idxOf x) with e | e
    · rw [e, q.head] at he; exact absurd (Option.some.inj he).symm hx0
    · exact e
  obtain ⟨i, p, hij, hip, hin⟩ := q.par _ x hpos he
  obtain ⟨hil, hie⟩ := List.getElem?_eq_some_iff.1 hip
  have hpi : (order succ).idxOf p = i := by rw [← hie]; exact idx_getElem q.nodup hil
  exact ⟨p, List.mem_filter.2 ⟨hie ▸ List.getElem_mem hil, by simpa using hin⟩, by omega⟩

/-- Idom's blocks over the caller's. -/
structure IdH (h0 : AHeap) (n : Nat) (U : List Int) (bp bM bu bU : Nat) (es : List (Int × AVal)) (h : AHeap) : Prop where
  hp : h bp = some (.cells [.v (.map (some bM))] 189 1)
  hM : h bM = some (.map .i64 es)
  hu : h bu = some (.cells [.v (.slice (some ⟨bU, 0, none⟩) n n)] 53 1)
  hU : h bU = some (.cells (U.map eI) 3 n)
  len : U.length = n
  sub : HSub h0 h
  nM : h0 bM = none
  nU : h0 bU = none
  ne : bU ≠ bu
theorem IdH.setU {h0 n U bp bM bu bU es h} (q : IdH h0 n U bp bM bu bU es h) (x : Nat) (w : Int) : IdH h0 n (U.set x w) bp bM bu bU es (hset h bU (some (.cells ((U.set x w).map eI) 3 n))) :=
  ⟨set_ne q.hp q.hU (fun e => by injection e with _ e2; cases e2), set_ne q.hM q.hU (by simp), by rw [hset_ne _ _ q.ne.symm]; exact q.hu, hset_same _ _ _, by rw [List.length_set]; exact q.len, HSub.put q.sub q.nU, q.nM, q.nU, q.ne⟩
theorem IdH.setM {h0 n U bp bM bu bU es h} (q : IdH h0 n U bp bM bu bU es h) (es' : List (Int × AVal)) : IdH h0 n U bp bM bu bU es' (hset h bM (some (.map .i64 es'))) :=
  ⟨set_ne q.hp q.hM (by simp), hset_same _ _ _, set_ne q.hu q.hM (by simp), set_ne q.hU q.hM (by simp), q.len, HSub.put q.sub q.nM, q.nM, q.nU, q.ne⟩
theorem IdH.add {h0 n U bp bM bu bU es h} (q : IdH h0 n U bp bM bu bU es h) {b : Nat} (k : ABlk) (hb : h b = none) : IdH h0 n U bp bM bu bU es (hset h b (some k)) := by
  have hn : ∀ {c l}, h c = some l → hset h b (some k) c = some l := fun {c l} hc => by rw [hset_ne _ _ (fun e => by subst e; rw [hb] at hc; cases hc)]; exact hc
  refine ⟨hn q.hp, hn q.hM, hn q.hu, hn q.hU, q.len, fun c l hc => hn (q.sub c l hc), q.nM, q.nU, q.ne⟩
theorem IdH.st {h0 n U bp bM bu bU es h} (q : IdH h0 n U bp bM bu bU es h) {o : List Int} (pl : ∀ y ∈ o, (mget y es).getD (.v (.int .i64 0)) = eI (o.idxOf y)) (rg : ∀ y ∈ o, 0 ≤ y ∧ y < n) : IdSt o n U bp bM bu bU es h :=
  ⟨q.hp, q.hM, q.hu, q.hU, pl, q.len, rg⟩

/-- Idom's blocks, new. -/
def idom0 (h : AHeap) (n bM bp bU bu : Nat) (cs : List AVal) : AHeap := hset (hset (hset (hset h bM (some (.map .i64 []))) bp (some (.cells [.v (.map (some bM))] 189 1))) bU (some (.cells cs 3 n))) bu (some (.cells [.v (.slice (some ⟨bU, 0, none⟩) n n)] 53 1))
theorem zrep_eq (n : Nat) : zrep [.v (.int .i64 0)] 1 n = (List.replicate n (0 : Int)).map eI := by
  apply List.ext_getElem
  · simp [zrep]
  · intro i h1 h2
    simp [zrep, eI, Nat.mod_one]
theorem upf_const (n : Nat) : upf (List.replicate n (-1)) = fun _ => -1 := by
  funext i
  unfold upf
  split
  · rfl
  · rw [List.getD_eq_getElem?_getD, List.getElem?_replicate]; split <;> rfl
theorem set_rep {n k : Nat} {U : List Int} (hU : U = List.replicate k (-1) ++ List.replicate (n - k) 0) (hk : k < n) : U.set k (-1) = List.replicate (k + 1) (-1) ++ List.replicate (n - (k + 1)) 0 := by
  subst hU
  apply List.ext_getElem
  · simp; omega
  · intro i h1 h2
    simp only [List.getElem_set, List.getElem_append, List.length_replicate, List.getElem_replicate]
    repeat' split
    all_goals first | rfl | omega

set_option maxRecDepth 10000 in
theorem Idom_spec (succ : List (List Int)) (h : AHeap) (h0 : succ ≠ []) (hn : succ.length ≤ 1000000) (hm : ∀ l ∈ succ, l.length ≤ 1000000) :
    Sp Try.prog 92 [eIss succ] h (fun r h' => (∃ U, r = eIs U ∧ U.length = succ.length ∧ Fin (order succ) (predF succ (order succ)) (upf U)) ∧ h' = h) := by
  have g := gr_of h0
  have hol := order_len succ
  have hor := order_range succ
  refine Sp.of Try.func92 rfl rfl (by show 1 ≤ 102; decide) ?_
  (repeat (first | refine AC.seq ?_ | refine AC.block ?_ | refine AC.skip ?_))
  refine AC.region ?_
  refine AOps.step rfl rfl ?_
  refine AOp.of_run (ARun.mvV (.inr rfl) rfl) ?_
  refine AOps.nil ?_
  (repeat (first | refine AC.seq ?_ | refine AC.block ?_ | refine AC.skip ?_))
  refine AC.region ?_
  refine AOps.step rfl rfl ?_
  refine AOp.of_run (ARun.mvL (.inl rfl) rfl) ?_
  refine AOps.step rfl rfl (AOp.call_ rfl rfl ((Order_spec succ h hn hm).mono ?_))
  rintro _ _ ⟨rfl, rfl⟩
  generalize order succ = o at *
  generalize hP : predF succ o = P at g ⊢
  refine AOps.step rfl rfl ?_
  refine AOp.of_run (ARun.mvL (.inr rfl) rfl) ?_
  refine AOps.nil ?_
  (repeat (first | refine AC.seq ?_ | refine AC.block ?_ | refine AC.skip ?_))
  refine AC.region ?_
  refine AOps.step rfl rfl ?_
  refine AOp.of_run (ARun.mvL (.inl rfl) rfl) ?_
  refine AOps.step rfl rfl ?_
  refine AOp.of_run (ARun.lenL rfl rfl) ?_
  refine AOps.step rfl rfl (AOp.makeMapN rfl rfl (fun bM hbM => ?_))
  refine AOps.step rfl rfl (AOp.alloc rfl (fun bp hbp => ?_))
  refine AOps.step rfl rfl (AOp.store1 rfl rfl (hset_same _ _ _) rfl (by show 0 < 1; decide) ?_)
  refine AOps.nil ?_
  (repeat (first | refine AC.seq ?_ | refine AC.block ?_ | refine AC.skip ?_))
  refine AC.region ?_
  refine AOps.step rfl rfl ?_
  refine AOp.of_run (ARun.mvL (.inl rfl) rfl) ?_
  refine AOps.step rfl rfl ?_
  refine AOp.of_run (ARun.lenL rfl rfl) ?_
  refine AOps.step rfl rfl (AOp.makeSlice rfl rfl rfl (by omega) (by omega) (by omega) (fun bU hbU => ?_))
  refine AOps.step rfl rfl (AOp.alloc rfl (fun bu hbu => ?_))
  refine AOps.step rfl rfl (AOp.store1 rfl rfl (hset_same _ _ _) rfl (by show 0 < 1; decide) ?_)
  refine AOps.nil ?_
  have hbU' := hbU
  have hbu' := hbu
  rw [hset_hset] at hbU' hbu'
  have n1 := fresh_ne hbp
  have p1 := fresh_peel hbp
  have n2 := fresh_ne hbU'
  have n3 := fresh_ne (fresh_peel hbU')
  have p3 := fresh_peel (fresh_peel hbU')
  have n4 := fresh_ne hbu'
  have n5 := fresh_ne (fresh_peel hbu')
  have n6 := fresh_ne (fresh_peel (fresh_peel hbu'))
  have p6 := fresh_peel (fresh_peel (fresh_peel hbu'))
  rename_i h
  generalize hN : succ.length = n at *
  have q : IdH h n (List.replicate n 0) bp bM bu bU [] (idom0 h n bM bp bU bu (zrep [.v (.int .i64 0)] 1 n)) :=
    ⟨by simp [idom0, hset, n2.symm, n5.symm], by simp [idom0, hset, n1.symm, n3.symm, n6.symm], by simp [idom0, hset], by rw [zrep_eq]; simp [idom0, hset, n4.symm], by simp, HSub.put (HSub.put (HSub.put (HSub.put (HSub.refl h) hbM) p1) p3) p6, hbM, p3, n4.symm⟩
  rw [hset_hset, hset_hset, Int.toNat_natCast, Nat.mul_one]
  change thenA _ _ Exit.normal _ (idom0 h n bM bp bU bu (zrep [.v (.int .i64 0)] 1 n))
  generalize hH : idom0 h n bM bp bU bu _ = H at q ⊢
  (repeat (first | refine AC.seq ?_ | refine AC.block ?_ | refine AC.skip ?_))
  refine AC.region ?_
  refine AOps.step rfl rfl (AOp.of_run (ARun.load rfl rfl q.hu rfl) ?_)
  refine AOps.step rfl rfl ?_
  refine AOp.of_run (ARun.lenV rfl rfl) ?_
  refine AOps.step rfl rfl ?_
  refine AOp.of_run (ARun.mvV (.inl rfl) rfl) ?_
  refine AOps.nil ?_
  (repeat (first | refine AC.seq ?_ | refine AC.block ?_ | refine AC.skip ?_ | refine AC.exit ?_))
  refine AC.loop (fun m τ h' => ∃ k U, k ≤ n ∧ m = n - k ∧ Slots τ [(0, eIss succ), (3, eIs o), (4, .v (ptr bp)), (5, .v (ptr bu)), (26, eI n), (27, eI k)] ∧ U = List.replicate k (-1) ++ List.replicate (n - k) 0 ∧ IdH h n U bp bM bu bU [] h') n ?_ ?_
  · exact ⟨0, _, Nat.zero_le _, rfl, ⟨rfl, rfl, rfl, rfl, rfl, rfl, trivial⟩, by simp, q⟩
  clear q
  rintro m τ h' ⟨k, U, hk, rfl, hs, hU, q⟩
  obtain ⟨t0, rfl⟩ := hs.open_
  (repeat (first | refine AC.seq ?_ | refine AC.block ?_ | refine AC.skip ?_))
  refine AC.region ?_
  refine AOps.step rfl rfl ?_
  refine AOp.of_run (ARun.lss rfl rfl rfl) ?_
  refine AOps.nil ?_
  (repeat (first | refine AC.seq ?_ | refine AC.block ?_ | refine AC.skip ?_)); refine AC.cond rfl (fun hc => ?_) (fun hc => ?_)
  · have hlt : k < n := by simpa using hc
    have hUl := q.len
    (repeat (first | refine AC.seq ?_ | refine AC.block ?_ | refine AC.skip ?_ | refine AC.exit ?_))
    (repeat (first | refine AC.seq ?_ | refine AC.block ?_ | refine AC.skip ?_))
    refine AC.region ?_
    refine AOps.step rfl rfl ?_
    refine AOp.of_run (ARun.mvV (.inl rfl) rfl) ?_
    refine AOps.step rfl rfl ?_
    refine AOp.of_run (ARun.mvV (.inr rfl) rfl) ?_
    refine AOps.nil ?_
    (repeat (first | refine AC.seq ?_ | refine AC.block ?_ | refine AC.skip ?_))
    refine AC.region ?_
    refine AOps.step rfl rfl (AOp.of_run (ARun.load rfl rfl q.hu rfl) ?_)
    refine AOps.step rfl rfl ?_
    refine AOp.of_run (ARun.mvV (.inl rfl) rfl) ?_
    refine AOps.step rfl rfl ?_
    refine AOp.of_run (ARun.indexAddr rfl rfl rfl (by omega) (by omega)) ?_
    refine AOps.step rfl rfl (AOp.store1 rfl rfl q.hU rfl (by simp; omega) ?_)
    refine AOps.nil ?_
    (repeat (first | refine AC.seq ?_ | refine AC.block ?_ | refine AC.skip ?_))
    refine AC.region ?_
    refine AOps.step rfl rfl ?_
    refine AOp.of_run (ARun.add rfl rfl rfl) ?_
    refine AOps.step rfl rfl ?_
    refine AOp.of_run (ARun.mvV (.inl rfl) rfl) ?_
    refine AOps.nil ?_
    have q2 := q.setU k (-1)
    have e : (U.map eI).set (0 + ((k : Int)).toNat * 1) (.v (.int .i64 (-1))) = (U.set k (-1)).map eI := by
      rw [Int.toNat_natCast, Nat.zero_add, Nat.mul_one, List.map_set]; rfl
    rw [e]
    exact ⟨_, by omega, k + 1, U.set k (-1), hlt, rfl, ⟨rfl, rfl, rfl, rfl, rfl, eI_wrap (by omega) (by omega) (by omega), trivial⟩, set_rep hU hlt, q2⟩
  have hge : k = n := by simp at hc; omega
  subst hge
  rw [Nat.sub_self, List.replicate_zero, List.append_nil] at hU
  have hUk := hU
  (repeat (first | refine AC.seq ?_ | refine AC.block ?_ | refine AC.skip ?_ | refine AC.exit ?_))
  (repeat (first | refine AC.seq ?_ | refine AC.block ?_ | refine AC.skip ?_))
  refine AC.region ?_
  refine AOps.step rfl rfl ?_
  refine AOp.of_run (ARun.mvL (.inl rfl) rfl) ?_
  refine AOps.step rfl rfl ?_
  refine AOp.of_run (ARun.lenL rfl rfl) ?_
  refine AOps.step rfl rfl ?_
  refine AOp.of_run (ARun.mvV (.inl rfl) rfl) ?_
  refine AOps.nil ?_
  (repeat (first | refine AC.seq ?_ | refine AC.block ?_ | refine AC.skip ?_ | refine AC.exit ?_))
  refine AC.loop (fun m τ h' => ∃ j es, j ≤ o.length ∧ m = o.length - j ∧ Slots τ [(0, eIss succ), (3, eIs o), (4, .v (ptr bp)), (5, .v (ptr bu)), (34, eIs o), (35, eI o.length), (36, eI j)] ∧ IdH h k U bp bM bu bU es h' ∧ ∀ y ∈ o, o.idxOf y < j → mget y es = some (eI (o.idxOf y))) o.length ?_ ?_
  · exact ⟨0, [], Nat.zero_le _, rfl, ⟨rfl, rfl, rfl, rfl, rfl, rfl, rfl, trivial⟩, q, fun y _ hy => by omega⟩
  clear q
  rintro m τ h' ⟨j, es, hj, rfl, hs, q, hes⟩
  obtain ⟨t0, rfl⟩ := hs.open_
  (repeat (first | refine AC.seq ?_ | refine AC.block ?_ | refine AC.skip ?_))
  refine AC.region ?_
  refine AOps.step rfl rfl ?_
  refine AOp.of_run (ARun.lss rfl rfl rfl) ?_
  refine AOps.nil ?_
  (repeat (first | refine AC.seq ?_ | refine AC.block ?_ | refine AC.skip ?_)); refine AC.cond rfl (fun hc => ?_) (fun hc => ?_)
  · have hlt : j < o.length := by simpa using hc
    (repeat (first | refine AC.seq ?_ | refine AC.block ?_ | refine AC.skip ?_ | refine AC.exit ?_))
    (repeat (first | refine AC.seq ?_ | refine AC.block ?_ | refine AC.skip ?_))
    refine AC.region ?_
    refine AOps.step rfl rfl ?_
    refine AOp.of_run (ARun.mvV (.inl rfl) rfl) ?_
    refine AOps.step rfl rfl ?_
    refine AOp.of_run (ARun.indexAddrL rfl rfl rfl (by omega) (by omega)) ?_
    refine AOps.step rfl rfl ?_
    refine AOp.of_run (ARun.loadL rfl rfl (get_map hlt)) ?_
    refine AOps.step rfl rfl ?_
    refine AOp.of_run (ARun.mvV (.inr rfl) rfl) ?_
    refine AOps.step rfl rfl ?_
    refine AOp.of_run (ARun.mvV (.inr rfl) rfl) ?_
    refine AOps.nil ?_
    (repeat (first | refine AC.seq ?_ | refine AC.block ?_ | refine AC.skip ?_))
    refine AC.region ?_
    refine AOps.step rfl rfl (AOp.of_run (ARun.load rfl rfl q.hp rfl) ?_)
    refine AOps.step rfl rfl ?_
    refine AOp.of_run (ARun.mvV (.inl rfl) rfl) ?_
    refine AOps.step rfl rfl ?_
    refine AOp.of_run (ARun.mvV (.inl rfl) rfl) ?_
    refine AOps.step rfl rfl (AOp.mapUpdate (.inl rfl) rfl rfl q.hM ?_)
    refine AOps.nil ?_
    (repeat (first | refine AC.seq ?_ | refine AC.block ?_ | refine AC.skip ?_ | refine AC.exit ?_))
    (repeat (first | refine AC.seq ?_ | refine AC.block ?_ | refine AC.skip ?_))
    refine AC.region ?_
    refine AOps.step rfl rfl ?_
    refine AOp.of_run (ARun.add rfl rfl rfl) ?_
    refine AOps.step rfl rfl ?_
    refine AOp.of_run (ARun.mvV (.inl rfl) rfl) ?_
    refine AOps.nil ?_
    refine ⟨_, by omega, j + 1, mput o[j] (eI j) es, hlt, rfl, ⟨rfl, rfl, rfl, rfl, rfl, rfl, eI_wrap (by omega) (by omega) (by omega), trivial⟩, q.setM _, fun y hy hyj => ?_⟩
    rw [mget_mput]
    by_cases e : y = o[j]
    · rw [if_pos e, e, idx_getElem g.nodup hlt]
    · rw [if_neg e]
      refine hes y hy ?_
      rcases Nat.lt_or_ge (o.idxOf y) j with c | c
      · exact c
      · exact absurd (g.inj hy (List.getElem_mem hlt) (by rw [idx_getElem g.nodup hlt]; omega)) e
  have hge : j = o.length := by simp at hc; omega
  subst hge
  have pl : ∀ y ∈ o, (mget y es).getD (.v (.int .i64 0)) = eI (o.idxOf y) := fun y hy => by
    rw [hes y hy (List.idxOf_lt_length_iff.2 hy)]; rfl
  (repeat (first | refine AC.seq ?_ | refine AC.block ?_ | refine AC.skip ?_ | refine AC.exit ?_))
  (repeat (first | refine AC.seq ?_ | refine AC.block ?_ | refine AC.skip ?_))
  refine AC.region ?_
  refine AOps.step rfl rfl ?_
  refine AOp.of_run (ARun.mvL (.inl rfl) rfl) ?_
  refine AOps.step rfl rfl ?_
  refine AOp.of_run (ARun.mvL (.inl rfl) rfl) ?_
  refine AOps.step rfl rfl (AOp.call_ rfl rfl ((preds_spec succ o h' (by omega) hm (by omega) (by rw [hN]; exact hor) g.nodup).mono ?_))
  rintro _ _ ⟨bF, esF, rfl, hbF, rfl, hF⟩
  rw [hP] at hF
  replace q := q.add (.map .i64 esF) hbF
  have hFb : hset h' bF (some (.map .i64 esF)) bF = some (.map .i64 esF) := hset_same _ _ _
  clear hbF hes hs hU
  generalize hset h' bF (some (.map .i64 esF)) = HF at *
  refine AOps.step rfl rfl ?_
  refine AOp.of_run (ARun.mvV (.inr rfl) rfl) ?_
  refine AOps.nil ?_
  (repeat (first | refine AC.seq ?_ | refine AC.block ?_ | refine AC.skip ?_))
  refine AC.region ?_
  refine AOps.step rfl rfl (AOp.of_run (ARun.makeFunc (f' := #[]) (c' := #[ptr bp, ptr bu]) rfl rfl rfl) ?_)
  refine AOps.step rfl rfl ?_
  refine AOp.of_run (ARun.mvV (.inr rfl) rfl) ?_
  refine AOps.nil ?_
  (repeat (first | refine AC.seq ?_ | refine AC.block ?_ | refine AC.skip ?_))
  refine AC.region ?_
  refine AOps.step rfl rfl ?_
  refine AOp.of_run (ARun.mvV (.inr rfl) rfl) ?_
  refine AOps.nil ?_
  (repeat (first | refine AC.seq ?_ | refine AC.block ?_ | refine AC.skip ?_ | refine AC.exit ?_))
  have hneg : ∀ U : List Int, upf U (-1) < 0 := fun U => by unfold upf; rw [if_pos (by decide)]; decide
  refine AC.loop (fun m τ h' => ∃ U more, Slots τ [(3, eIs o), (4, .v (ptr bp)), (5, .v (ptr bu)), (9, .v (.map (some bF))), (10, .v (.func (.func 120) #[] #[ptr bp, ptr bu])), (11, eB more)] ∧ IdH h k U bp bM bu bU es h' ∧ h' bF = some (.map .i64 esF) ∧ Head o P m (upf U) more) (o.length * o.length + 3) ?_ ?_
  · exact ⟨U, true, ⟨rfl, rfl, rfl, rfl, rfl, rfl, trivial⟩, q, hFb, by rw [hUk, upf_const]; exact Head.start g⟩
  clear q hFb hUk
  rintro m τ h' ⟨U, more, hs, q, hFb, hd⟩
  obtain ⟨t0, rfl⟩ := hs.open_
  (repeat (first | refine AC.seq ?_ | refine AC.block ?_ | refine AC.skip ?_))
  refine AC.region ?_
  refine AOps.step rfl rfl ?_
  refine AOp.of_run (ARun.mvV (.inl rfl) rfl) ?_
  refine AOps.nil ?_
  (repeat (first | refine AC.seq ?_ | refine AC.block ?_ | refine AC.skip ?_)); refine AC.cond rfl (fun hc => ?_) (fun hc => ?_)
  · subst hc
    have ps := hd.enter g
    (repeat (first | refine AC.seq ?_ | refine AC.block ?_ | refine AC.skip ?_ | refine AC.exit ?_))
    (repeat (first | refine AC.seq ?_ | refine AC.block ?_ | refine AC.skip ?_))
    refine AC.region ?_
    refine AOps.step rfl rfl ?_
    refine AOp.of_run (ARun.mvV (.inr rfl) rfl) ?_
    refine AOps.nil ?_
    (repeat (first | refine AC.seq ?_ | refine AC.block ?_ | refine AC.skip ?_))
    refine AC.region ?_
    refine AOps.step rfl rfl ?_
    refine AOp.of_run (ARun.mvL (.inl rfl) rfl) ?_
    refine AOps.step rfl rfl ?_
    refine AOp.of_run (ARun.lenL rfl rfl) ?_
    refine AOps.step rfl rfl ?_
    refine AOp.of_run (ARun.mvV (.inl rfl) rfl) ?_
    refine AOps.nil ?_
    (repeat (first | refine AC.seq ?_ | refine AC.block ?_ | refine AC.skip ?_ | refine AC.exit ?_))
    refine AC.loop (fun m2 τ h' => ∃ U more i z, i ≤ o.length ∧ m2 = o.length - i ∧ (z = i ∨ (i = 0 ∧ z = 1)) ∧ Slots τ [(3, eIs o), (4, .v (ptr bp)), (5, .v (ptr bu)), (9, .v (.map (some bF))), (10, .v (.func (.func 120) #[] #[ptr bp, ptr bu])), (11, eB more), (50, eIs o), (51, eI o.length), (52, eI i)] ∧ IdH h k U bp bM bu bU es h' ∧ h' bF = some (.map .i64 esF) ∧ PS o P m z (upf U) more) o.length ?_ ?_
    · exact ⟨U, false, 0, 1, Nat.zero_le _, rfl, .inr ⟨rfl, rfl⟩, ⟨rfl, rfl, rfl, rfl, rfl, rfl, rfl, rfl, rfl, trivial⟩, q, hFb, ps⟩
    clear ps hd q hFb
    rintro m2 τ h' ⟨U, more, i, z, hi, rfl, hz, hs, q, hFb, ps⟩
    obtain ⟨t0, rfl⟩ := hs.open_
    have hUl := q.len
    (repeat (first | refine AC.seq ?_ | refine AC.block ?_ | refine AC.skip ?_))
    refine AC.region ?_
    refine AOps.step rfl rfl ?_
    refine AOp.of_run (ARun.lss rfl rfl rfl) ?_
    refine AOps.nil ?_
    (repeat (first | refine AC.seq ?_ | refine AC.block ?_ | refine AC.skip ?_)); refine AC.cond rfl (fun hc => ?_) (fun hc => ?_)
    · have hlt : i < o.length := by simpa using hc
      have hxo : o[i] ∈ o := List.getElem_mem hlt
      have hxr := hor _ hxo
      (repeat (first | refine AC.seq ?_ | refine AC.block ?_ | refine AC.skip ?_ | refine AC.exit ?_))
      (repeat (first | refine AC.seq ?_ | refine AC.block ?_ | refine AC.skip ?_))
      refine AC.region ?_
      refine AOps.step rfl rfl ?_
      refine AOp.of_run (ARun.mvV (.inl rfl) rfl) ?_
      refine AOps.step rfl rfl ?_
      refine AOp.of_run (ARun.indexAddrL rfl rfl rfl (by omega) (by omega)) ?_
      refine AOps.step rfl rfl ?_
      refine AOp.of_run (ARun.loadL rfl rfl (get_map hlt)) ?_
      refine AOps.step rfl rfl ?_
      refine AOp.of_run (ARun.mvV (.inr rfl) rfl) ?_
      refine AOps.step rfl rfl ?_
      refine AOp.of_run (ARun.mvV (.inr rfl) rfl) ?_
      refine AOps.nil ?_
      (repeat (first | refine AC.seq ?_ | refine AC.block ?_ | refine AC.skip ?_))
      refine AC.region ?_
      refine AOps.step rfl rfl ?_
      refine AOp.of_run (ARun.mvV (.inl rfl) rfl) ?_
      refine AOps.step rfl rfl ?_
      refine AOp.of_run (ARun.eql rfl rfl rfl) ?_
      refine AOps.nil ?_
      (repeat (first | refine AC.seq ?_ | refine AC.block ?_ | refine AC.skip ?_)); refine AC.cond rfl (fun hc => ?_) (fun hc => ?_)
      · have hi0 : i = 0 := by simpa using hc
        subst hi0
        have hz1 : z = 1 := by
          rcases hz with e | ⟨_, e⟩
          · subst e; exact absurd ps.1 (Nat.lt_irrefl _)
          · exact e
        subst hz1
        (repeat (first | refine AC.seq ?_ | refine AC.block ?_ | refine AC.skip ?_ | refine AC.exit ?_))
        (repeat (first | refine AC.seq ?_ | refine AC.block ?_ | refine AC.skip ?_))
        refine AC.region ?_
        refine AOps.step rfl rfl ?_
        refine AOp.of_run (ARun.add rfl rfl rfl) ?_
        refine AOps.step rfl rfl ?_
        refine AOp.of_run (ARun.mvV (.inl rfl) rfl) ?_
        refine AOps.nil ?_
        exact ⟨_, by omega, U, more, 1, 1, hlt, rfl, .inl rfl, ⟨rfl, rfl, rfl, rfl, rfl, rfl, rfl, rfl, eI_wrap (by omega) (by omega) (by omega), trivial⟩, q, hFb, ps⟩
      have hi0 : i ≠ 0 := by simpa using hc
      have hzi : z = i := by
        rcases hz with e | ⟨e, _⟩
        · exact e
        · exact absurd e hi0
      subst hzi
      have hxi : o.idxOf o[z] = z := idx_getElem g.nodup hlt
      have hx0 : o[z] ≠ 0 := g.ne0 (by omega)
      obtain ⟨p0, hp0, _⟩ := g.par _ hxo hx0
      have hFx : mget o[z] esF = some (eIs (P o[z])) := by
        rcases hF o[z] with e | ⟨_, e⟩
        · exact e
        · rw [e] at hp0; simp at hp0
      have hFx' : (mget o[z] esF).getD (.v (.slice none 0 0)) = eIs (P o[z]) := by rw [hFx]; rfl
      have hLo : ∀ y ∈ P o[z], y ∈ o := g.inn _ hxo
      have hLl : (P o[z]).length ≤ 1000000 := by
        rw [← hP]; exact Nat.le_trans (List.length_filter_le _ _) (by omega)
      (repeat (first | refine AC.seq ?_ | refine AC.block ?_ | refine AC.skip ?_ | refine AC.exit ?_))
      (repeat (first | refine AC.seq ?_ | refine AC.block ?_ | refine AC.skip ?_))
      refine AC.region ?_
      refine AOps.step rfl rfl ?_
      refine AOp.of_run (ARun.mvV (.inr rfl) rfl) ?_
      refine AOps.nil ?_
      (repeat (first | refine AC.seq ?_ | refine AC.block ?_ | refine AC.skip ?_))
      refine AC.region ?_
      refine AOps.step rfl rfl ?_
      refine AOp.of_run (ARun.mvV (.inl rfl) rfl) ?_
      refine AOps.step rfl rfl ?_
      refine AOp.of_run (ARun.mvV (.inl rfl) rfl) ?_
      refine AOps.step rfl rfl (AOp.of_run (ARun.lookup rfl rfl rfl hFb hFx') ?_)
      refine AOps.step rfl rfl ?_
      refine AOp.of_run (ARun.lenL rfl rfl) ?_
      refine AOps.step rfl rfl ?_
      refine AOp.of_run (ARun.mvV (.inl rfl) rfl) ?_
      refine AOps.nil ?_
      generalize hL : P o[z] = L at *
      (repeat (first | refine AC.seq ?_ | refine AC.block ?_ | refine AC.skip ?_ | refine AC.exit ?_))
      refine AC.loop (fun m3 τ h2 => ∃ j best, j ≤ L.length ∧ m3 = L.length - j ∧ Slots τ [(3, eIs o), (4, .v (ptr bp)), (5, .v (ptr bu)), (9, .v (.map (some bF))), (10, .v (.func (.func 120) #[] #[ptr bp, ptr bu])), (11, eB more), (12, eI z), (13, eI o[z]), (14, eI best), (50, eIs o), (51, eI o.length), (52, eI z), (61, eIs L), (62, eI L.length), (63, eI j)] ∧ Best (upf U) (L.take j) best ∧ (best = -1 ∨ best ∈ o) ∧ h2 = h') L.length ?_ ?_
      · exact ⟨0, -1, Nat.zero_le _, rfl, ⟨rfl, rfl, rfl, rfl, rfl, rfl, rfl, rfl, rfl, rfl, rfl, rfl, rfl, rfl, rfl, trivial⟩, Best.nil _, .inl rfl, rfl⟩
      rintro m3 τ h2 ⟨j, best, hj, rfl, hs, hB, hbo, rfl⟩
      obtain ⟨t0, rfl⟩ := hs.open_
      (repeat (first | refine AC.seq ?_ | refine AC.block ?_ | refine AC.skip ?_))
      refine AC.region ?_
      refine AOps.step rfl rfl ?_
      refine AOp.of_run (ARun.lss rfl rfl rfl) ?_
      refine AOps.nil ?_
      (repeat (first | refine AC.seq ?_ | refine AC.block ?_ | refine AC.skip ?_)); refine AC.cond rfl (fun hc => ?_) (fun hc => ?_)
      · have hlt2 : j < L.length := by simpa using hc
        have hyo := hLo _ (List.getElem_mem hlt2)
        have hyr := hor _ hyo
        have ho0 : (o.map eI)[((0 : Int)).toNat * 1]? = some (eI 0) := by
          rw [Int.toNat_zero, Nat.zero_mul, List.getElem?_map, g.head]; rfl
        have h0l : 0 < o.length := by omega
        have hBend : ∀ b2, Best (upf U) (L.take j ++ [L[j]]) b2 → (b2 = -1 ∨ b2 ∈ o) → Best (upf U) (L.take (j + 1)) b2 := fun b2 hb2 _ => by
          rw [List.take_succ_eq_append_getElem hlt2]; exact hb2
        (repeat (first | refine AC.seq ?_ | refine AC.block ?_ | refine AC.skip ?_ | refine AC.exit ?_))
        (repeat (first | refine AC.seq ?_ | refine AC.block ?_ | refine AC.skip ?_))
        refine AC.region ?_
        refine AOps.step rfl rfl ?_
        refine AOp.of_run (ARun.indexAddrL rfl rfl rfl (by omega) (by omega)) ?_
        refine AOps.step rfl rfl ?_
        refine AOp.of_run (ARun.loadL rfl rfl (get_map hlt2)) ?_
        refine AOps.step rfl rfl ?_
        refine AOp.of_run (ARun.mvV (.inr rfl) rfl) ?_
        refine AOps.nil ?_
        (repeat (first | refine AC.seq ?_ | refine AC.block ?_ | refine AC.skip ?_ | refine AC.exit ?_))
        refine AC.mono (Q := fun e τ h3 => e = .normal ∧ h3 = h2 ∧ Slots τ [(3, eIs o), (4, .v (ptr bp)), (5, .v (ptr bu)), (9, .v (.map (some bF))), (10, .v (.func (.func 120) #[] #[ptr bp, ptr bu])), (11, eB more), (12, eI z), (13, eI o[z]), (14, eI best), (16, eI L[j]), (50, eIs o), (51, eI o.length), (52, eI z), (61, eIs L), (62, eI L.length), (63, eI j), (78, eB ((!decide (L[j] = 0)) && decide (upf U L[j] < 0)))]) ?_ ?_
        · (repeat (first | refine AC.seq ?_ | refine AC.block ?_ | refine AC.skip ?_))
          refine AC.region ?_
          refine AOps.step rfl rfl ?_
          refine AOp.of_run (ARun.mvV (.inl rfl) rfl) ?_
          refine AOps.step rfl rfl ?_
          refine AOp.of_run (ARun.mvL (.inl rfl) rfl) ?_
          refine AOps.step rfl rfl ?_
          refine AOp.of_run (ARun.indexAddrL rfl rfl rfl (by omega) (by omega)) ?_
          refine AOps.step rfl rfl (AOp.of_run (ARun.loadL rfl rfl ho0) ?_)
          refine AOps.step rfl rfl ?_
          refine AOp.of_run (ARun.neq rfl rfl rfl) ?_
          refine AOps.step rfl rfl ?_
          refine AOp.of_run (ARun.mvV (.inl rfl) rfl) ?_
          cases g2 : decide (L[j] = 0)
          · refine AOps.want rfl rfl (by decide) rfl ?_
            refine AOps.step rfl rfl (AOp.of_run (ARun.load rfl rfl q.hu rfl) ?_)
            refine AOps.want rfl rfl (by decide) rfl ?_
            refine AOps.step rfl rfl ?_
            refine AOp.of_run (ARun.mvV (.inl rfl) rfl) ?_
            refine AOps.want rfl rfl (by decide) rfl ?_
            refine AOps.step rfl rfl ?_
            refine AOp.of_run (ARun.indexAddr rfl rfl rfl (by omega) (by omega)) ?_
            refine AOps.want rfl rfl (by decide) rfl ?_
            refine AOps.step rfl rfl (AOp.of_run (ARun.load rfl rfl q.hU (upf_get hyr.1 (by omega))) ?_)
            refine AOps.want rfl rfl (by decide) rfl ?_
            refine AOps.step rfl rfl ?_
            refine AOp.of_run (ARun.lss rfl rfl rfl) ?_
            refine AOps.step rfl rfl (AOp.of_run (ARun.pickT rfl rfl) ?_)
            refine AOps.nil ?_
            exact ⟨rfl, rfl, rfl, rfl, rfl, rfl, rfl, rfl, rfl, rfl, rfl, rfl, rfl, rfl, rfl, rfl, rfl, rfl, rfl, trivial⟩
          · refine AOps.pass rfl rfl (by decide) rfl (by decide) rfl ?_
            refine AOps.pass rfl rfl (by decide) rfl (by decide) rfl ?_
            refine AOps.pass rfl rfl (by decide) rfl (by decide) rfl ?_
            refine AOps.pass rfl rfl (by decide) rfl (by decide) rfl ?_
            refine AOps.pass rfl rfl (by decide) rfl (by decide) rfl ?_
            refine AOps.step rfl rfl (AOp.of_run (ARun.pickF rfl rfl) ?_)
            refine AOps.nil ?_
            exact ⟨rfl, rfl, rfl, rfl, rfl, rfl, rfl, rfl, rfl, rfl, rfl, rfl, rfl, rfl, rfl, rfl, rfl, rfl, rfl, trivial⟩
        rintro _ τ _ ⟨rfl, rfl, hs⟩
        obtain ⟨t1, rfl⟩ := hs.open_
        (repeat (first | refine AC.seq ?_ | refine AC.block ?_ | refine AC.skip ?_)); refine AC.cond rfl (fun hc => ?_) (fun hc => ?_)
        · have hnp : ¬ Pro (upf U) L[j] := by
            rintro (e | e)
            · simp [e] at hc
            · simp at hc; omega
          (repeat (first | refine AC.seq ?_ | refine AC.block ?_ | refine AC.skip ?_ | refine AC.exit ?_))
          (repeat (first | refine AC.seq ?_ | refine AC.block ?_ | refine AC.skip ?_))
          refine AC.region ?_
          refine AOps.step rfl rfl ?_
          refine AOp.of_run (ARun.add rfl rfl rfl) ?_
          refine AOps.step rfl rfl ?_
          refine AOp.of_run (ARun.mvV (.inl rfl) rfl) ?_
          refine AOps.nil ?_
          exact ⟨_, by omega, j + 1, best, hlt2, rfl, ⟨rfl, rfl, rfl, rfl, rfl, rfl, rfl, rfl, rfl, rfl, rfl, rfl, rfl, rfl, eI_wrap (by omega) (by omega) (by omega), trivial⟩, hBend _ (hB.skip hnp) hbo, hbo, rfl⟩
        · have hpro : Pro (upf U) L[j] := by
            by_cases e : L[j] = 0
            · exact .inl e
            · refine .inr ?_
              simp [e] at hc; exact hc
          (repeat (first | refine AC.seq ?_ | refine AC.block ?_ | refine AC.skip ?_ | refine AC.exit ?_))
          (repeat (first | refine AC.seq ?_ | refine AC.block ?_ | refine AC.skip ?_))
          refine AC.region ?_
          refine AOps.step rfl rfl ?_
          refine AOp.of_run (ARun.mvV (.inl rfl) rfl) ?_
          refine AOps.step rfl rfl ?_
          refine AOp.of_run (ARun.lss rfl rfl rfl) ?_
          refine AOps.nil ?_
          (repeat (first | refine AC.seq ?_ | refine AC.block ?_ | refine AC.skip ?_)); refine AC.cond rfl (fun hc => ?_) (fun hc => ?_)
          · have hbn : best < 0 := by simpa using hc
            have hb1 : best = -1 := by
              rcases hbo with e | e
              · exact e
              · have := hor _ e; omega
            subst hb1
            (repeat (first | refine AC.seq ?_ | refine AC.block ?_ | refine AC.skip ?_))
            refine AC.region ?_
            refine AOps.step rfl rfl ?_
            refine AOp.of_run (ARun.mvV (.inl rfl) rfl) ?_
            refine AOps.step rfl rfl ?_
            refine AOp.of_run (ARun.mvV (.inr rfl) rfl) ?_
            refine AOps.nil ?_
            (repeat (first | refine AC.seq ?_ | refine AC.block ?_ | refine AC.skip ?_ | refine AC.exit ?_))
            (repeat (first | refine AC.seq ?_ | refine AC.block ?_ | refine AC.skip ?_))
            refine AC.region ?_
            refine AOps.step rfl rfl ?_
            refine AOp.of_run (ARun.add rfl rfl rfl) ?_
            refine AOps.step rfl rfl ?_
            refine AOp.of_run (ARun.mvV (.inl rfl) rfl) ?_
            refine AOps.nil ?_
            exact ⟨_, by omega, j + 1, L[j], hlt2, rfl, ⟨rfl, rfl, rfl, rfl, rfl, rfl, rfl, rfl, rfl, rfl, rfl, rfl, rfl, rfl, eI_wrap (by omega) (by omega) (by omega), trivial⟩, hBend _ (hB.first hpro hyr.1 (hneg U)) (.inr hyo), .inr hyo, rfl⟩
          · have hb0 : 0 ≤ best := by simpa using hc
            have hbin : best ∈ o := by
              rcases hbo with e | e
              · omega
              · exact e
            have hbp2 : Pro (upf U) best := by
              rcases hB with ⟨e, _⟩ | ⟨e, _⟩
              · omega
              · exact e
            (repeat (first | refine AC.seq ?_ | refine AC.block ?_ | refine AC.skip ?_))
            refine AC.region ?_
            refine AOps.step rfl rfl ?_
            refine AOp.of_run (ARun.mvV (.inl rfl) rfl) ?_
            refine AOps.step rfl rfl ?_
            refine AOp.of_run (ARun.mvV (.inl rfl) rfl) ?_
            refine AOps.step rfl rfl ?_
            refine AOp.of_run (ARun.mvV (.inl rfl) rfl) ?_
            refine AOps.step rfl rfl (AOp.call_ rfl rfl ((meet_spec (q.st pl hor) g.nodup g.zero ps.tree best L[j] hbin hyo hbp2 hpro).mono ?_))
            rintro _ _ ⟨⟨r, rfl, hro, hnca⟩, rfl⟩
            refine AOps.step rfl rfl ?_
            refine AOp.of_run (ARun.mvV (.inr rfl) rfl) ?_
            refine AOps.nil ?_
            (repeat (first | refine AC.seq ?_ | refine AC.block ?_ | refine AC.skip ?_ | refine AC.exit ?_))
            (repeat (first | refine AC.seq ?_ | refine AC.block ?_ | refine AC.skip ?_))
            refine AC.region ?_
            refine AOps.step rfl rfl ?_
            refine AOp.of_run (ARun.add rfl rfl rfl) ?_
            refine AOps.step rfl rfl ?_
            refine AOp.of_run (ARun.mvV (.inl rfl) rfl) ?_
            refine AOps.nil ?_
            exact ⟨_, by omega, j + 1, r, hlt2, rfl, ⟨rfl, rfl, rfl, rfl, rfl, rfl, rfl, rfl, rfl, rfl, rfl, rfl, rfl, rfl, eI_wrap (by omega) (by omega) (by omega), trivial⟩, hBend _ (hB.meet hb0 hpro hnca) (.inr hro), .inr hro, rfl⟩
      · have hge : j = L.length := by simp at hc; omega
        subst hge
        rw [take_all (Nat.le_refl _), ← hL] at hB
        obtain ⟨ps2, hbo2⟩ := ps.step g hlt hB
        (repeat (first | refine AC.seq ?_ | refine AC.block ?_ | refine AC.skip ?_ | refine AC.exit ?_))
        refine AC.mono (Q := fun e τ h3 => e = .normal ∧ h3 = h2 ∧ Slots τ [(3, eIs o), (4, .v (ptr bp)), (5, .v (ptr bu)), (9, .v (.map (some bF))), (10, .v (.func (.func 120) #[] #[ptr bp, ptr bu])), (11, eB (more || decide (best ≠ upf U o[z]))), (12, eI z), (13, eI o[z]), (14, eI best), (50, eIs o), (51, eI o.length), (52, eI z)]) ?_ ?_
        · (repeat (first | refine AC.seq ?_ | refine AC.block ?_ | refine AC.skip ?_))
          refine AC.region ?_
          refine AOps.step rfl rfl ?_
          refine AOp.of_run (ARun.mvV (.inl rfl) rfl) ?_
          refine AOps.step rfl rfl ?_
          refine AOp.of_run (ARun.mvV (.inl rfl) rfl) ?_
          cases more
          · refine AOps.want rfl rfl (by decide) rfl ?_
            refine AOps.step rfl rfl ?_
            refine AOp.of_run (ARun.mvV (.inl rfl) rfl) ?_
            refine AOps.want rfl rfl (by decide) rfl ?_
            refine AOps.step rfl rfl (AOp.of_run (ARun.load rfl rfl q.hu rfl) ?_)
            refine AOps.want rfl rfl (by decide) rfl ?_
            refine AOps.step rfl rfl ?_
            refine AOp.of_run (ARun.mvV (.inl rfl) rfl) ?_
            refine AOps.want rfl rfl (by decide) rfl ?_
            refine AOps.step rfl rfl ?_
            refine AOp.of_run (ARun.indexAddr rfl rfl rfl (by omega) (by omega)) ?_
            refine AOps.want rfl rfl (by decide) rfl ?_
            refine AOps.step rfl rfl (AOp.of_run (ARun.load rfl rfl q.hU (upf_get hxr.1 (by omega))) ?_)
            refine AOps.want rfl rfl (by decide) rfl ?_
            refine AOps.step rfl rfl ?_
            refine AOp.of_run (ARun.neq rfl rfl rfl) ?_
            refine AOps.step rfl rfl (AOp.of_run (ARun.pickF rfl rfl) ?_)
            refine AOps.step rfl rfl ?_
            refine AOp.of_run (ARun.mvV (.inr rfl) rfl) ?_
            refine AOps.nil ?_
            exact ⟨rfl, rfl, rfl, rfl, rfl, rfl, rfl, by simp [updO, upd, eB], rfl, rfl, rfl, rfl, rfl, rfl, trivial⟩
          · refine AOps.pass rfl rfl (by decide) rfl (by decide) rfl ?_
            refine AOps.pass rfl rfl (by decide) rfl (by decide) rfl ?_
            refine AOps.pass rfl rfl (by decide) rfl (by decide) rfl ?_
            refine AOps.pass rfl rfl (by decide) rfl (by decide) rfl ?_
            refine AOps.pass rfl rfl (by decide) rfl (by decide) rfl ?_
            refine AOps.pass rfl rfl (by decide) rfl (by decide) rfl ?_
            refine AOps.step rfl rfl (AOp.of_run (ARun.pickT rfl rfl) ?_)
            refine AOps.step rfl rfl ?_
            refine AOp.of_run (ARun.mvV (.inr rfl) rfl) ?_
            refine AOps.nil ?_
            exact ⟨rfl, rfl, rfl, rfl, rfl, rfl, rfl, rfl, rfl, rfl, rfl, rfl, rfl, rfl, trivial⟩
        rintro _ τ _ ⟨rfl, rfl, hs⟩
        obtain ⟨t1, rfl⟩ := hs.open_
        (repeat (first | refine AC.seq ?_ | refine AC.block ?_ | refine AC.skip ?_))
        refine AC.region ?_
        refine AOps.step rfl rfl (AOp.of_run (ARun.load rfl rfl q.hu rfl) ?_)
        refine AOps.step rfl rfl ?_
        refine AOp.of_run (ARun.mvV (.inl rfl) rfl) ?_
        refine AOps.step rfl rfl ?_
        refine AOp.of_run (ARun.mvV (.inl rfl) rfl) ?_
        refine AOps.step rfl rfl ?_
        refine AOp.of_run (ARun.indexAddr rfl rfl rfl (by omega) (by omega)) ?_
        refine AOps.step rfl rfl (AOp.store1 rfl rfl q.hU rfl (by simp; omega) ?_)
        refine AOps.nil ?_
        (repeat (first | refine AC.seq ?_ | refine AC.block ?_ | refine AC.skip ?_))
        refine AC.region ?_
        refine AOps.step rfl rfl ?_
        refine AOp.of_run (ARun.add rfl rfl rfl) ?_
        refine AOps.step rfl rfl ?_
        refine AOp.of_run (ARun.mvV (.inl rfl) rfl) ?_
        refine AOps.nil ?_
        have q2 := q.setU o[z].toNat best
        have hF2 := set_ne (m := some (.cells ((U.set o[z].toNat best).map eI) 3 k)) hFb q.hU (by simp)
        have e : (U.map eI).set (0 + o[z].toNat * 1) (.v (.int .i64 best)) = (U.set o[z].toNat best).map eI := by
          rw [Nat.zero_add, Nat.mul_one, List.map_set]; rfl
        rw [← upf_set hxr.1 (by omega)] at ps2
        refine ⟨_, by omega, U.set o[z].toNat best, _, z + 1, z + 1, hlt, rfl, .inl rfl, ⟨rfl, rfl, rfl, rfl, rfl, rfl, rfl, rfl, eI_wrap (by omega) (by omega) (by omega), trivial⟩, ?_, ?_, ps2⟩
        · rw [← e] at q2; exact q2
        · rw [← e] at hF2; exact hF2
    · have hge : i = o.length := by simp at hc; omega
      have hol0 : 0 < o.length := by
        obtain ⟨hh, _⟩ := List.getElem?_eq_some_iff.1 g.head; exact hh
      have hzi : z = o.length := by omega
      subst hzi
      (repeat (first | refine AC.seq ?_ | refine AC.block ?_ | refine AC.skip ?_ | refine AC.exit ?_))
      obtain ⟨m', hm', hd⟩ := ps.leave g
      exact ⟨m', hm', U, more, ⟨rfl, rfl, rfl, rfl, rfl, rfl, trivial⟩, q, hFb, hd⟩
  · subst hc
    (repeat (first | refine AC.seq ?_ | refine AC.block ?_ | refine AC.skip ?_ | refine AC.exit ?_))
    (repeat (first | refine AC.seq ?_ | refine AC.block ?_ | refine AC.skip ?_))
    refine AC.region ?_
    refine AOps.step rfl rfl (AOp.of_run (ARun.load rfl rfl q.hu rfl) ?_)
    refine AOps.step rfl rfl ?_
    refine AOp.of_run (ARun.mvV (.inr rfl) rfl) ?_
    refine AOps.nil ?_
    have hUl := q.len
    refine AC.ret (ARes.le (Le.freezeMade (d := 2) rfl (Nat.le_refl _) q.hU) (ARes.le (Le.sub (h' := h) fun c l e => by rw [hset_ne _ _ (fun e2 => by subst e2; rw [q.nU] at e; cases e)]; exact q.sub c l e) (ARes.one rfl (RV.L rfl) ⟨⟨U, ?_, hUl, hd.fin⟩, rfl⟩)))
    rw [eIs, hUl]
end Go.Proofs.Ytilanageangegaa

/- The layer's rules (8): slices cut, literals of one's own, comparing with nil. No statement is proved here. -/
set_option linter.unusedVariables false
set_option linter.unusedSimpArgs false
namespace Go.Ab

section
variable {P : Program} {n : Nat} {o : Oper} {τ : Env} {h : AHeap} {K : AVal → AHeap → Prop}

theorem run_cut {t e : TypeId} {sz by_ : Nat} (S : Sl P t e sz by_) (a : Option Addr) (len cap : Nat) (kh : IntKind) (k : Int) (h0 : 0 ≤ k) (h2 : k ≤ cap) (w : World) (ha : ∀ x, a = some x → x.add 0 = x) :
    (Instr.sliceAt t (.slice a len cap) none (some (.int kh k)) none).run P w = .ok (.slice a k.toNat cap) w := by
  have hadd : (if cap = 0 then a else a.map (·.add (0 * sz))) = a := by
    split
    · rfl
    · cases a with
      | none => rfl
      | some x => simp [ha x rfl]
  simp only [Instr.sliceAt, Instr.slice, Instr.sliceBounds, Instr.sliceBound, asIntOf, Sem.run_bind, Sem.run_pure, Result.andThen_ok, run_underlying S.under, run_sizeOf_ w S.size, if_pos (show 0 ≤ k ∧ k ≤ cap from ⟨h0, h2⟩), hadd, Nat.sub_zero]
theorem addr_add0 (b of : Nat) : (⟨b, of, none⟩ : Addr).add 0 = ⟨b, of, none⟩ := by unfold Addr.add; split <;> simp_all
/-- A slice of one's own, cut: s[:k]. -/
theorem AOp.cut {h0 : AHeap} {t e : TypeId} {sz by_ m : Nat} {cs : List AVal} {s y : Operand} {kh : IntKind} {k : Int} [S : Sl P t e sz by_] (ho : o.op = .slice t s none (some y) none)
    (hs : Own h0 e sz m cs (aev τ s) h) (hy : aev τ y = .v (.int kh k)) (hk0 : 0 ≤ k) (hk : k ≤ m) (kk : ∀ x' h', Own h0 e sz k.toNat (cs.take (k.toNat * sz)) x' h' → K x' h') : AOp P n o τ h K := by
  intro a w r NK QQ hK
  obtain ⟨hl, ⟨ad, hx, rfl, rfl⟩ | ⟨b, c, hx, hb, hn, hm, rfl⟩⟩ := hs
  · have hk00 : k = 0 := by omega
    subst hk00
    have hrun : (execOp a.eval o).run P w = .ok (.value (.slice ad 0 0)) w := by
      unfold execOp
      have : (Instr.sliceAt t (.slice ad 0 0) none (some (.int kh 0)) none).run P w = .ok (.slice ad 0 0) w := by
        simp only [Instr.sliceAt, Instr.slice, Instr.sliceBounds, Instr.sliceBound, asIntOf, Sem.run_bind, Sem.run_pure, Result.andThen_ok, run_underlying S.under]
        simp [run_sizeOf_ w S.size]
      simp only [ho, r.eval_v hx, Option.map_none, Option.map_some, r.eval_v hy, Sem.run_bind, this, Result.andThen_ok, Sem.run_pure]
    unfold Oper.wp
    rw [hrun]
    refine hK _ _ _ _ (.v _) r.heap (Ev.refl h w) (kk _ _ ?_)
    simp only [Int.toNat_zero, Nat.zero_mul, List.take_zero]
    exact Own.zero h e sz ad
  · have hkm : k.toNat ≤ m := by omega
    have hmul : k.toNat * sz ≤ m * sz := Nat.mul_le_mul_right _ hkm
    have hrun : (execOp a.eval o).run P w = .ok (.value (.slice (some ⟨b, 0, none⟩) k.toNat c)) w := by
      unfold execOp
      simp only [ho, r.eval_v hx, Option.map_none, Option.map_some, r.eval_v hy, Sem.run_bind, run_cut S (some ⟨b, 0, none⟩) m c kh k hk0 (by omega) w (fun x e => by cases e; exact addr_add0 b 0), Result.andThen_ok, Sem.run_pure]
    unfold Oper.wp
    rw [hrun]
    have hnone : ∀ i, hset h0 b (some (.cells cs e (c * sz))) i = none → hset h0 b (some (.cells (cs.take (k.toNat * sz)) e (c * sz))) i = none := fun i hi => by
      rw [hset_ne _ _ (fresh_ne hi)]; exact fresh_peel hi
    have hev : Ev (hset h0 b (some (.cells cs e (c * sz)))) w (hset h0 b (some (.cells (cs.take (k.toNat * sz)) e (c * sz)))) w := ⟨Nat.le_refl _, fun i _ hi => ⟨hnone i hi, rfl⟩, rfl, rfl, rfl⟩
    refine hK _ _ _ _ (.v _) (fun i q hq => ?_) hev (kk _ _ ⟨by rw [List.length_take]; omega, .inr ⟨b, c, rfl, hb, by omega, hm, rfl⟩⟩)
    by_cases hib : i = b
    · subst hib
      rw [hset_same] at hq
      injection hq with hq
      subst hq
      obtain ⟨C, h1, h2, h3, h4⟩ := r.heap i _ (hset_same _ _ _)
      refine ⟨C, h1, h2, by rw [List.length_take]; omega, fun j h5 h6 => ?_⟩
      rw [List.getElem_take]
      exact (h4 j (by rw [List.length_take] at h5; omega) h6).mono hev
    · rw [hset_ne _ _ hib] at hq
      exact (r.heap i q (by rw [hset_ne _ _ hib]; exact hq)).mono hev rfl

/-- A slice literal, one's own. -/
theorem AOp.buildOwn {t e : TypeId} {sz by_ len : Nat} {ag : Bool} {zs cs : List AVal} {parts : Array (Nat × Operand)} [S : Sl P t e sz by_] [T : Ty P e ag sz zs] (ho : o.op = .buildSlice t len parts) (k : ∀ x' h', Own h e sz len cs x' h' → K x' h')
    (hc : afill (fun i => some (i * sz, sz)) (zrep zs sz (len * sz)) (parts.toList.map fun p => (p.1, aev τ p.2)) = some cs := by rfl) (hlen : cs.length = len * sz := by rfl) (hz : zs.length = sz := by rfl) (hsmall : len * sz ≤ 16777216 := by decide) (hmax : len ≤ maxLen := by decide) : AOp P n o τ h K := by
  intro a w r NK QQ hK
  obtain ⟨z, hz1, hzs⟩ := run_zeroValue_ w T.zero
  obtain ⟨e1, e2⟩ := evals r parts _ rfl
  have hzl : z.cells.size = sz := by rw [← hz, ← hzs]; simp
  generalize hZ : (if len * sz = 0 then #[] else z.cells) = Z
  have hinit : ∀ i (h1 : i < (zrep zs sz (len * sz)).length) (h2 : i < ((Array.range (len * sz)).map fun x => Z[x % Z.size]!).size), VR w h (zrep zs sz (len * sz))[i] ((Array.range (len * sz)).map fun x => Z[x % Z.size]!)[i] := by
    intro i h1 h2
    have hi : i < len * sz := by simpa [zrep] using h1
    have hsz : 0 < sz := by rcases Nat.eq_zero_or_pos sz with e0 | e0
                            · subst e0; simp at hi
                            · exact e0
    have hne : len * sz ≠ 0 := by omega
    rw [if_neg hne] at hZ
    subst hZ
    have hm : i % sz < sz := Nat.mod_lt _ hsz
    simp only [zrep, List.getElem_map, List.getElem_range, Array.getElem_map, Array.getElem_range, hzl]
    have ez : zs.getD (i % sz) .any = .v z.cells[i % sz] := by
      subst hzs
      simp [List.getD_eq_getElem?_getD, hzl, hm]
    rw [ez]
    have : z.cells[i % sz]! = z.cells[i % sz] := by rw [getElem!_pos]
    rw [this]; exact .v _
  obtain ⟨R, hR, hRl, hRv⟩ := fill_ok (w := w) (h := h) (fun i => some (i * sz, sz)) _ _ (zrep zs sz (len * sz)) ((Array.range (len * sz)).map fun x => Z[x % Z.size]!) cs e1 e2 (by simp [zrep]) hinit hc
  obtain ⟨hok, hev⟩ := push_cells r.heap R e cs (by omega) hRv
  have hrun : (execOp a.eval o).run P w = .ok (.value (.slice (some ⟨w.heap.size, 0, none⟩) len len)) { w with heap := w.heap.push (.cells R e) } := by
    unfold execOp
    have hn : ¬ (len * sz > 2 ^ 24) := by omega
    simp only [ho, Instr.buildSlice, Sem.run_bind, run_underlying S.under, Result.andThen_ok, run_sizeOf_ w S.size, if_neg hn, Sem.run_ite, Sem.run_pure]
    by_cases h0 : len * sz = 0
    · rw [if_pos h0] at hZ ⊢
      subst hZ
      simp only [Sem.run_pure, Result.andThen_ok, hR, newRow, Sem.run_bind, run_newObj]
    · rw [if_neg h0] at hZ ⊢
      subst hZ
      simp only [Sem.run_bind, hz1, Sem.run_pure, Result.andThen_ok, hR, newRow, run_newObj]
  unfold Oper.wp
  rw [hrun]
  have hRs : R.size = len * sz := by omega
  rw [hRs] at hok hev
  exact hK _ _ _ _ (.v _) hok hev (k _ _ ⟨hlen, .inr ⟨_, len, rfl, r.heap.fresh, Nat.le_refl _, hmax, rfl⟩⟩)

/-- s == nil, of an immutable slice: whether it is nil is not told, but it is so only if it is empty. -/
theorem AOp.eqlNil {t e : TypeId} {sz by_ m : Nat} {cs : List AVal} {s y : Operand} {t2 : TypeId} [S : Sl P t e sz by_] (ho : o.op = .binOp .eql t s y t2) (hs : aev τ s = .ls m cs) (hy : aev τ y = .v (.slice none 0 0)) (k : ∀ b : Bool, (b = true → m = 0 ∧ cs = []) → K (.v (.bool b)) h) : AOp P n o τ h K := by
  intro a w r NK QQ hK
  have ex := r.eval s
  rw [hs] at ex
  have key : ∀ (ad : Option Addr) (c : Nat), a.eval s = .slice ad m c → (ad.isNone = true → m = 0 ∧ cs = []) → o.wp P a w NK QQ := by
    intro ad c hv hn
    have hrun : (execOp a.eval o).run P w = .ok (.value (.bool ad.isNone)) w := by
      unfold execOp
      have h1 := run_equal_slice_nil w t e ad m c S.under
      have h2 : (binOp .eql t (.slice ad m c) (.slice none 0 0)).run P w = .ok (.bool ad.isNone) w := by
        simp only [binOp]
        simp [h1]
      simp only [ho, hv, r.eval_v hy]
      simp only [go_sem, Sem.run_bind, Sem.run_pure, Result.andThen_ok, h2]
    unfold Oper.wp
    rw [hrun]
    exact hK _ _ _ _ (.v _) r.heap (Ev.refl h w) (k _ hn)
  generalize hv : a.eval s = v at ex
  cases ex with
  | ls0 ad c => exact key ad c hv fun _ => ⟨rfl, rfl⟩
  | ls b of n c cs C t fr hb hw hn hl hc => exact key _ c hv fun e => by cases e
end
end Go.Ab

namespace Go.Ab
/-- A guarded operation that is passed by; its guard may itself have been passed by. -/
theorem AOps.passU {P : Program} {n : Nat} {ops : Array Oper} {Q : Env → AHeap → Prop} {τ : Env} {h : AHeap} {o : Oper} {rest : List Oper} {j : Nat} {b : Bool} {t : Nat} {v : Value} (hg : o.guard = some (j, b)) (hj : (ops[j]?).bind (·.dst) = some t) (ht : t < n) (hv : τ t = .v v) (hb : notB v b = true) (hd : dstOK n o.dst = true)
    (x : AOps P n ops rest Q (updO τ o.dst (.v undef)) h) : AOps P n ops (o :: rest) Q τ h := fun a w r => by
  unfold wpList
  have he : a.tmps.getD t undef = v := by have := r.tmps t; rw [hv] at this; exact this.inv_v
  have hsz := r.size
  have htm : a.tmps[t]? = some v := by
    rw [Array.getElem?_eq_getElem (by omega)]
    rw [Array.getD_eq_getD_getElem?, Array.getElem?_eq_getElem (by omega)] at he
    simpa using he
  have hw : Region.wanted o (yielded ops a.tmps) = false := by
    unfold Region.wanted
    rw [hg]
    simp only
    unfold yielded
    rw [hj]
    simp only [Option.bind_some, htm]
    cases v <;> simp_all [notB]
  rw [if_neg (by simp [hw])]
  exact x _ _ (r.putO hd (.v _))
end Go.Ab

namespace Go.Ab
theorem ARun.nilCheckL {P : Program} {n : Nat} {o : Oper} {τ : Env} {h : AHeap} {x : Operand} {cs : List AVal} {off : Nat} (ho : o.op = .nilCheck x) (hx : aev τ x = .lp cs off) : ARun P n o τ h (.lp cs off) := fun a w r => by
  have e := r.eval x
  rw [hx] at e
  obtain ⟨b, of, hv, hc⟩ := e.inv_lp
  refine ⟨a.eval x, ?_, e⟩
  unfold execOp
  simp only [ho, hv]; rfl
end Go.Ab

namespace Go.Ab
section
variable {P : Program} {n : Nat} {o : Oper} {τ : Env} {h : AHeap} {t t2 : TypeId} {x y : Operand} {p q : Bool}
theorem ARun.neqB (ht : P.underlying t = some .bool) (ho : o.op = .binOp .neq t x y t2) (hx : aev τ x = .v (.bool p)) (hy : aev τ y = .v (.bool q)) : ARun P n o τ h (.v (.bool (!(p == q)))) :=
  .bin ho hx hy fun w => by
    have h1 := run_neq_bool (P := P) w t p q ht
    simp only [go_sem, Sem.run_bind, Sem.run_pure, Result.andThen_ok, h1]
theorem ARun.eqlB (ht : P.underlying t = some .bool) (ho : o.op = .binOp .eql t x y t2) (hx : aev τ x = .v (.bool p)) (hy : aev τ y = .v (.bool q)) : ARun P n o τ h (.v (.bool (p == q))) :=
  .bin ho hx hy fun w => by
    have h1 := run_eql_bool (P := P) w t p q ht
    simp only [go_sem, Sem.run_bind, Sem.run_pure, Result.andThen_ok, h1]
end
end Go.Ab

/- Walks of package slices: Clone; of dom: Reach. -/
set_option linter.unusedVariables false
namespace Go.Proofs.Ytilanageangegaa
open Go.Ab

theorem all_flatMap {α : Type} {f : α → List AVal} (hf : ∀ x, (f x).all cellB = true) : ∀ l : List α, (l.flatMap f).all cellB = true
  | [] => rfl
  | x :: l => by rw [List.flatMap_cons, List.all_append, hf, all_flatMap hf l]; rfl

set_option maxRecDepth 10000 in
theorem CloneI_spec (a : List Int) (h : AHeap) (ha : a.length ≤ 1000000000) : Sp Try.prog 103 [eIs a] h (fun r h' => r = eIs a ∧ h' = h) := by
  refine Sp.of Try.func103 rfl rfl (by show 1 ≤ 8; decide) ?_
  (repeat (first | refine AC.seq ?_ | refine AC.block ?_ | refine AC.skip ?_))
  refine AC.region ?_
  refine AOps.step rfl rfl ?_
  refine AOp.of_run (ARun.mvV (.inr rfl) rfl) ?_
  refine AOps.nil ?_
  (repeat (first | refine AC.seq ?_ | refine AC.block ?_ | refine AC.skip ?_))
  refine AC.region ?_
  refine AOps.step rfl rfl ?_
  refine AOp.of_run (ARun.mvL (.inl rfl) rfl) ?_
  refine AOps.step rfl rfl (AOp.eqlNil rfl rfl rfl (fun b hb => ?_))
  refine AOps.nil ?_
  (repeat (first | refine AC.seq ?_ | refine AC.block ?_ | refine AC.skip ?_)); refine AC.cond rfl (fun hc => ?_) (fun hc => ?_)
  · obtain ⟨h1, h2⟩ := hb hc
    (repeat (first | refine AC.seq ?_ | refine AC.block ?_ | refine AC.skip ?_))
    refine AC.region ?_
    refine AOps.step rfl rfl ?_
    refine AOp.of_run (ARun.mvV (.inr rfl) rfl) ?_
    refine AOps.nil ?_
    refine AC.ret (ARes.le (Le.freezeOwn (d := 2) (Own.nil h 3 1)) (ARes.one rfl (RV.L rfl) ⟨?_, rfl⟩))
    rw [eIs, h1, h2]
  · (repeat (first | refine AC.seq ?_ | refine AC.block ?_ | refine AC.skip ?_))
    refine AC.region ?_
    refine AOps.step rfl rfl (AOp.buildOwn rfl (fun x1 h1 ho1 => ?_))
    refine AOps.step rfl rfl ?_
    refine AOp.of_run (ARun.mvL (.inl rfl) rfl) ?_
    refine AOps.step rfl rfl (AOp.append rfl ho1 (RdSl.ls (by simp)) (by unfold maxLen; omega) (by omega) (fun x2 h2 ho2 => ?_) (all_map_eI _))
    refine AOps.step rfl rfl ?_
    refine AOp.of_run (ARun.assign rfl) ?_
    refine AOps.nil ?_
    refine AC.ret (ARes.le (Le.freezeOwn (d := 2) ho2) (ARes.one rfl (RV.L rfl) ⟨?_, rfl⟩))
    rw [eIs, Nat.zero_add]; rfl

set_option maxRecDepth 10000 in
theorem CloneN_spec (a : List DNode) (h : AHeap) (ha : a.length ≤ 2000000) : Sp Try.prog 38 [eNodes a] h (fun r h' => Own h 64 12 a.length (a.flatMap eNode) r h') := by
  refine Sp.of Try.func38 rfl rfl (by show 1 ≤ 8; decide) ?_
  (repeat (first | refine AC.seq ?_ | refine AC.block ?_ | refine AC.skip ?_))
  refine AC.region ?_
  refine AOps.step rfl rfl ?_
  refine AOp.of_run (ARun.mvV (.inr rfl) rfl) ?_
  refine AOps.nil ?_
  (repeat (first | refine AC.seq ?_ | refine AC.block ?_ | refine AC.skip ?_))
  refine AC.region ?_
  refine AOps.step rfl rfl ?_
  refine AOp.of_run (ARun.mvL (.inl rfl) rfl) ?_
  refine AOps.step rfl rfl (AOp.eqlNil rfl rfl rfl (fun b hb => ?_))
  refine AOps.nil ?_
  (repeat (first | refine AC.seq ?_ | refine AC.block ?_ | refine AC.skip ?_)); refine AC.cond rfl (fun hc => ?_) (fun hc => ?_)
  · obtain ⟨h1, h2⟩ := hb hc
    (repeat (first | refine AC.seq ?_ | refine AC.block ?_ | refine AC.skip ?_))
    refine AC.region ?_
    refine AOps.step rfl rfl ?_
    refine AOp.of_run (ARun.mvV (.inr rfl) rfl) ?_
    refine AOps.nil ?_
    refine AC.ret (ARes.one rfl (RV.V rfl) ?_)
    rw [h1, h2]; exact Own.nil h 64 12
  · (repeat (first | refine AC.seq ?_ | refine AC.block ?_ | refine AC.skip ?_))
    refine AC.region ?_
    refine AOps.step rfl rfl (AOp.buildOwn rfl (fun x1 h1 ho1 => ?_))
    refine AOps.step rfl rfl ?_
    refine AOp.of_run (ARun.mvL (.inl rfl) rfl) ?_
    refine AOps.step rfl rfl (AOp.append rfl ho1 (RdSl.ls (flatMap_length _ _ eNode_len a)) (by unfold maxLen; omega) (by omega) (fun x2 h2 ho2 => ?_) (all_flatMap (fun _ => rfl) _))
    refine AOps.step rfl rfl ?_
    refine AOp.of_run (ARun.assign rfl) ?_
    refine AOps.nil ?_
    rw [Nat.zero_add] at ho2
    refine AC.ret (ARes.one rfl RV.tmp ho2)

set_option maxRecDepth 10000 in
theorem CloneP_spec (a : List DPart) (h : AHeap) (ha : a.length ≤ 2000000) : Sp Try.prog 37 [eParts a] h (fun r h' => Own h 60 10 a.length (a.flatMap ePart) r h') := by
  refine Sp.of Try.func37 rfl rfl (by show 1 ≤ 8; decide) ?_
  (repeat (first | refine AC.seq ?_ | refine AC.block ?_ | refine AC.skip ?_))
  refine AC.region ?_
  refine AOps.step rfl rfl ?_
  refine AOp.of_run (ARun.mvV (.inr rfl) rfl) ?_
  refine AOps.nil ?_
  (repeat (first | refine AC.seq ?_ | refine AC.block ?_ | refine AC.skip ?_))
  refine AC.region ?_
  refine AOps.step rfl rfl ?_
  refine AOp.of_run (ARun.mvL (.inl rfl) rfl) ?_
  refine AOps.step rfl rfl (AOp.eqlNil rfl rfl rfl (fun b hb => ?_))
  refine AOps.nil ?_
  (repeat (first | refine AC.seq ?_ | refine AC.block ?_ | refine AC.skip ?_)); refine AC.cond rfl (fun hc => ?_) (fun hc => ?_)
  · obtain ⟨h1, h2⟩ := hb hc
    (repeat (first | refine AC.seq ?_ | refine AC.block ?_ | refine AC.skip ?_))
    refine AC.region ?_
    refine AOps.step rfl rfl ?_
    refine AOp.of_run (ARun.mvV (.inr rfl) rfl) ?_
    refine AOps.nil ?_
    refine AC.ret (ARes.one rfl (RV.V rfl) ?_)
    rw [h1, h2]; exact Own.nil h 60 10
  · (repeat (first | refine AC.seq ?_ | refine AC.block ?_ | refine AC.skip ?_))
    refine AC.region ?_
    refine AOps.step rfl rfl (AOp.buildOwn rfl (fun x1 h1 ho1 => ?_))
    refine AOps.step rfl rfl ?_
    refine AOp.of_run (ARun.mvL (.inl rfl) rfl) ?_
    refine AOps.step rfl rfl (AOp.append rfl ho1 (RdSl.ls (flatMap_length _ _ ePart_len a)) (by unfold maxLen; omega) (by omega) (fun x2 h2 ho2 => ?_) (all_flatMap (fun _ => rfl) _))
    refine AOps.step rfl rfl ?_
    refine AOp.of_run (ARun.assign rfl) ?_
    refine AOps.nil ?_
    rw [Nat.zero_add] at ho2
    refine AC.ret (ARes.one rfl RV.tmp ho2)

theorem rep_eB (n : Nat) : zrep [.v (.bool false)] 1 n = (List.replicate n false).map eB := by
  apply List.ext_getElem
  · simp [zrep]
  · intro i h1 h2
    simp [zrep, eB, Nat.mod_one]

set_option maxRecDepth 10000 in
theorem Reach_spec (succ : List (List Int)) (h : AHeap) (hn : succ.length ≤ 1000000) (hm : ∀ l ∈ succ, l.length ≤ 1000000) : Sp Try.prog 81 [eIss succ] h (fun r h' => (∃ S : List Bool, r = eBs S ∧ S.length = succ.length ∧ ∀ i, i < succ.length → S[i]? = some (decide ((i : Int) ∈ order succ))) ∧ h' = h) := by
  refine Sp.of Try.func81 rfl rfl (by show 1 ≤ 21; decide) ?_
  (repeat (first | refine AC.seq ?_ | refine AC.block ?_ | refine AC.skip ?_))
  refine AC.region ?_
  refine AOps.step rfl rfl ?_
  refine AOp.of_run (ARun.mvV (.inr rfl) rfl) ?_
  refine AOps.nil ?_
  (repeat (first | refine AC.seq ?_ | refine AC.block ?_ | refine AC.skip ?_))
  refine AC.region ?_
  refine AOps.step rfl rfl ?_
  refine AOp.of_run (ARun.mvL (.inl rfl) rfl) ?_
  refine AOps.step rfl rfl ?_
  refine AOp.of_run (ARun.lenL rfl rfl) ?_
  refine AOps.step rfl rfl (AOp.makeSlice rfl rfl rfl (by omega) (by omega) (by omega) (fun b hb => ?_))
  refine AOps.step rfl rfl ?_
  refine AOp.of_run (ARun.mvV (.inr rfl) rfl) ?_
  refine AOps.nil ?_
  rw [Int.toNat_natCast, Nat.mul_one, rep_eB]
  (repeat (first | refine AC.seq ?_ | refine AC.block ?_ | refine AC.skip ?_ | refine AC.exit ?_))
  (repeat (first | refine AC.seq ?_ | refine AC.block ?_ | refine AC.skip ?_))
  refine AC.region ?_
  refine AOps.step rfl rfl ?_
  refine AOp.of_run (ARun.mvL (.inl rfl) rfl) ?_
  refine AOps.step rfl rfl (AOp.call_ rfl rfl ((Order_spec succ _ hn hm).mono ?_))
  rintro _ _ ⟨rfl, rfl⟩
  have hor := order_range succ
  have hol := order_len succ
  generalize order succ = o at *
  refine AOps.step rfl rfl ?_
  refine AOp.of_run (ARun.lenL rfl rfl) ?_
  refine AOps.step rfl rfl ?_
  refine AOp.of_run (ARun.mvV (.inl rfl) rfl) ?_
  refine AOps.nil ?_
  (repeat (first | refine AC.seq ?_ | refine AC.block ?_ | refine AC.skip ?_ | refine AC.exit ?_))
  refine AC.loop (fun m τ h' => ∃ (k : Nat) (S : List Bool), k ≤ o.length ∧ m = o.length - k ∧ Slots τ [(3, .v (.slice (some ⟨b, 0, none⟩) succ.length succ.length)), (10, eIs o), (11, eI o.length), (12, eI k)] ∧ S.length = succ.length ∧ (∀ i, i < succ.length → S[i]? = some (decide ((i : Int) ∈ o.take k))) ∧ h' = hset h b (some (.cells (S.map eB) 4 succ.length))) o.length ?_ ?_
  · exact ⟨0, List.replicate succ.length false, Nat.zero_le _, rfl, ⟨rfl, rfl, rfl, rfl, trivial⟩, by simp, fun i hi => by simp [hi], rfl⟩
  rintro m τ h' ⟨k, S, hk, rfl, hs, hSl, hS, rfl⟩
  obtain ⟨t0, rfl⟩ := hs.open_
  (repeat (first | refine AC.seq ?_ | refine AC.block ?_ | refine AC.skip ?_))
  refine AC.region ?_
  refine AOps.step rfl rfl ?_
  refine AOp.of_run (ARun.lss rfl rfl rfl) ?_
  refine AOps.nil ?_
  (repeat (first | refine AC.seq ?_ | refine AC.block ?_ | refine AC.skip ?_)); refine AC.cond rfl (fun hc => ?_) (fun hc => ?_)
  · have hlt : k < o.length := by simpa using hc
    have hr := hor _ (List.getElem_mem hlt)
    (repeat (first | refine AC.seq ?_ | refine AC.block ?_ | refine AC.skip ?_ | refine AC.exit ?_))
    (repeat (first | refine AC.seq ?_ | refine AC.block ?_ | refine AC.skip ?_))
    refine AC.region ?_
    refine AOps.step rfl rfl ?_
    refine AOp.of_run (ARun.indexAddrL rfl rfl rfl (by omega) (by omega)) ?_
    refine AOps.step rfl rfl ?_
    refine AOp.of_run (ARun.loadL rfl rfl (get_map hlt)) ?_
    refine AOps.step rfl rfl ?_
    refine AOp.of_run (ARun.mvV (.inr rfl) rfl) ?_
    refine AOps.nil ?_
    (repeat (first | refine AC.seq ?_ | refine AC.block ?_ | refine AC.skip ?_))
    refine AC.region ?_
    refine AOps.step rfl rfl ?_
    refine AOp.of_run (ARun.mvV (.inl rfl) rfl) ?_
    refine AOps.step rfl rfl ?_
    refine AOp.of_run (ARun.mvV (.inl rfl) rfl) ?_
    refine AOps.step rfl rfl ?_
    refine AOp.of_run (ARun.indexAddr rfl rfl rfl (by omega) (by omega)) ?_
    refine AOps.step rfl rfl (AOp.store1 rfl rfl (hset_same _ _ _) rfl (by simp; omega) ?_)
    refine AOps.nil ?_
    (repeat (first | refine AC.seq ?_ | refine AC.block ?_ | refine AC.skip ?_))
    refine AC.region ?_
    refine AOps.step rfl rfl ?_
    refine AOp.of_run (ARun.add rfl rfl rfl) ?_
    refine AOps.step rfl rfl ?_
    refine AOp.of_run (ARun.mvV (.inl rfl) rfl) ?_
    refine AOps.nil ?_
    have e : (S.map eB).set (0 + o[k].toNat * 1) (.v (.bool true)) = (S.set o[k].toNat true).map eB := by
      rw [Nat.zero_add, Nat.mul_one, List.map_set]; rfl
    refine ⟨_, by omega, k + 1, S.set o[k].toNat true, hlt, rfl, ⟨rfl, rfl, rfl, eI_wrap (by omega) (by omega) (by omega), trivial⟩, by simpa using hSl, fun i hi => ?_, ?_⟩
    · by_cases c : i = o[k].toNat
      · subst c
        rw [List.getElem?_set_self (by omega)]
        have : ((o[k].toNat : Nat) : Int) ∈ o.take (k + 1) := by rw [Int.toNat_of_nonneg hr.1]; exact (take_succ_mem hlt _).2 (.inr rfl)
        rw [decide_eq_true this]
      · rw [List.getElem?_set_ne (fun e => c e.symm), hS i hi]
        congr 1
        refine decide_eq_decide.2 ?_
        rw [take_succ_mem hlt]
        exact ⟨.inl, fun q => q.resolve_right fun e => c (by omega)⟩
    · rw [hset_hset, ← e]
  · have hge : k = o.length := by simp at hc; omega
    subst hge
    (repeat (first | refine AC.seq ?_ | refine AC.block ?_ | refine AC.skip ?_ | refine AC.exit ?_))
    (repeat (first | refine AC.seq ?_ | refine AC.block ?_ | refine AC.skip ?_))
    refine AC.region ?_
    refine AOps.step rfl rfl ?_
    refine AOp.of_run (ARun.mvV (.inl rfl) rfl) ?_
    refine AOps.step rfl rfl ?_
    refine AOp.of_run (ARun.mvV (.inr rfl) rfl) ?_
    refine AOps.nil ?_
    refine AC.ret (ARes.le (Le.freezeMade (d := 2) rfl (Nat.le_refl _) (hset_same _ _ _)) ?_)
    rw [hset_hset, hset_id hb]
    refine ARes.one rfl (RV.L rfl) ⟨⟨S, ?_, hSl, fun i hi => ?_⟩, rfl⟩
    · rw [eBs, hSl]
    · rw [hS i hi, take_all (Nat.le_refl _)]
end Go.Proofs.Ytilanageangegaa

/- Whom one may come to without a node, by a list of what is left to do. No program here. -/
set_option linter.unusedVariables false
namespace Go.Ab

/-- What one may come to from 0, not through w. -/
inductive RW (succ : List (List Int)) (w : Int) : Int → Prop
  | start : RW succ w 0
  | go {x y : Int} (h : RW succ w x) (hy : y ∈ inside succ x.toNat) (hne : y ≠ w) : RW succ w y
structure TD (succ : List (List Int)) (w : Int) (S : List Bool) (T : List Int) : Prop where
  len : S.length = succ.length
  sound : ∀ i : Nat, S[i]? = some true → RW succ w i
  todo : ∀ y ∈ T, 0 ≤ y ∧ y < succ.length ∧ RW succ w y
  zero : (0 : Int) ∈ T ∨ S[0]? = some true
  closed : ∀ i : Nat, S[i]? = some true → ∀ y ∈ inside succ i, y ≠ w → y ∈ T ∨ S[y.toNat]? = some true
theorem count_set : ∀ (S : List Bool) (i : Nat), S[i]? = some false → (S.set i true).count false + 1 = S.count false
  | [], i, h => by simp at h
  | b :: S, 0, h => by
    have : b = false := by simpa using h
    subst this; simp
  | b :: S, i + 1, h => by
    have := count_set S i (by simpa using h)
    rw [List.set_cons_succ, List.count_cons, List.count_cons]
    omega
variable {succ : List (List Int)} {w : Int}
theorem TD.pop {S : List Bool} {T : List Int} {x : Int} (q : TD succ w S (T ++ [x])) (hx : S[x.toNat]? = some true) : TD succ w S T := by
  have hxr := q.todo x (by simp)
  refine ⟨q.len, q.sound, fun y hy => q.todo y (by simp [hy]), ?_, fun i hi y hy hne => ?_⟩
  · rcases q.zero with h | h
    · rcases List.mem_append.1 h with e | e
      · exact .inl e
      · have : (0 : Int) = x := by simpa using e
        subst this; exact .inr hx
    · exact .inr h
  · rcases q.closed i hi y hy hne with h | h
    · rcases List.mem_append.1 h with e | e
      · exact .inl e
      · have : y = x := by simpa using e
        subst this; exact .inr hx
    · exact .inr h
theorem TD.take {S : List Bool} {T : List Int} {k : Nat} (q : TD succ w S (T ++ [(k : Int)])) : TD succ w (S.set k true) (T ++ (inside succ k).filter fun y => !decide (y = w)) := by
  have hxr := q.todo k (by simp)
  have hk : k < S.length := by have := q.len; omega
  have hget : ∀ i : Nat, (S.set k true)[i]? = some true ↔ i = k ∨ S[i]? = some true := fun i => by
    by_cases e : i = k
    · subst e; rw [List.getElem?_set_self hk]; simp
    · rw [List.getElem?_set_ne (Ne.symm e)]; simp [e]
  refine ⟨by rw [List.length_set]; exact q.len, fun i hi => ?_, fun y hy => ?_, ?_, fun i hi y hy hne => ?_⟩
  · rcases (hget i).1 hi with e | e
    · subst e; exact hxr.2.2
    · exact q.sound i e
  · rcases List.mem_append.1 hy with e | e
    · exact q.todo y (by simp [e])
    · obtain ⟨h1, h2⟩ := List.mem_filter.1 e
      have hr := inside_range h1
      exact ⟨hr.1, hr.2, .go hxr.2.2 (by rw [Int.toNat_natCast]; exact h1) (by simpa using h2)⟩
  · rcases q.zero with h | h
    · rcases List.mem_append.1 h with e | e
      · exact .inl (by simp [e])
      · have : (0 : Int) = k := by simpa using e
        exact .inr ((hget 0).2 (.inl (by omega)))
    · exact .inr ((hget 0).2 (.inr h))
  · rcases (hget i).1 hi with e | e
    · subst e; exact .inl (List.mem_append_right _ (List.mem_filter.2 ⟨hy, by simpa using hne⟩))
    · rcases q.closed i e y hy hne with h | h
      · rcases List.mem_append.1 h with e2 | e2
        · exact .inl (by simp [e2])
        · have : y = k := by simpa using e2
          exact .inr ((hget _).2 (.inl (by omega)))
      · exact .inr ((hget _).2 (.inr h))
theorem TD.done {S : List Bool} (q : TD succ w S []) {i : Nat} (hi : i < succ.length) : S[i]? = some true ↔ RW succ w i := by
  refine ⟨q.sound i, fun h => ?_⟩
  have key : ∀ x : Int, RW succ w x → 0 ≤ x ∧ S[x.toNat]? = some true := by
    intro x hx
    induction hx with
    | start =>
      refine ⟨Int.le_refl _, ?_⟩
      rcases q.zero with e | e
      · simp at e
      · exact e
    | @go x y hx hy hne ih =>
      refine ⟨(inside_range hy).1, ?_⟩
      rcases q.closed x.toNat ih.2 y hy hne with e | e
      · simp at e
      · exact e
  simpa using (key i h).2
theorem TD.start (h0 : 0 < succ.length) : TD succ w (List.replicate succ.length false) [0] :=
  ⟨by simp, fun i hi => by rw [List.getElem?_replicate] at hi; split at hi <;> simp at hi, fun y hy => by
    have : y = 0 := by simpa using hy
    subst this; exact ⟨by omega, by omega, .start⟩, .inl (by simp), fun i hi => by rw [List.getElem?_replicate] at hi; split at hi <;> simp at hi⟩
end Go.Ab

/- Walks of the document's answer for layer 15: walk. -/
set_option linter.unusedVariables false
namespace Go.Proofs.Ytilanageangegaa
open Go.Ab

/-- May one go on to a node? -/
def may (n : Nat) (w y : Int) : Bool := (decide (0 ≤ y) && decide (y < n)) && !decide (y = w)
theorem may_filter (succ : List (List Int)) (w : Int) {k : Nat} (hk : k < succ.length) : (succ[k]).filter (may succ.length w) = (inside succ k).filter fun y => !decide (y = w) := by
  have h2 : succ.getD k [] = succ[k] := by simp [List.getD_eq_getElem?_getD, hk]
  unfold inside
  rw [h2, List.filter_filter]
  congr 1
  funext y
  unfold may
  rw [Bool.and_comm]

set_option maxRecDepth 10000 in
theorem walk15_spec (succ : List (List Int)) (w : Int) (h : AHeap) (h0 : succ ≠ []) (hn : succ.length ≤ 1000000) (hm : ∀ l ∈ succ, l.length ≤ 1000000) :
    Sp Try.prog 72 [eIss succ, eI w] h (fun r h' => (∃ S : List Bool, r = eBs S ∧ S.length = succ.length ∧ ∀ i, i < succ.length → (S[i]? = some true ↔ w ≠ 0 ∧ RW succ w i)) ∧ h' = h) := by
  have hpos : 0 < succ.length := List.length_pos_iff.2 h0
  refine Sp.of Try.func72 rfl rfl (by show 2 ≤ 77; decide) ?_
  (repeat (first | refine AC.seq ?_ | refine AC.block ?_ | refine AC.skip ?_))
  refine AC.region ?_
  refine AOps.step rfl rfl ?_
  refine AOp.of_run (ARun.mvV (.inr rfl) rfl) ?_
  refine AOps.nil ?_
  (repeat (first | refine AC.seq ?_ | refine AC.block ?_ | refine AC.skip ?_))
  refine AC.region ?_
  refine AOps.step rfl rfl ?_
  refine AOp.of_run (ARun.mvL (.inl rfl) rfl) ?_
  refine AOps.step rfl rfl ?_
  refine AOp.of_run (ARun.lenL rfl rfl) ?_
  refine AOps.step rfl rfl (AOp.makeSlice rfl rfl rfl (by omega) (by omega) (by omega) (fun b hb => ?_))
  refine AOps.step rfl rfl ?_
  refine AOp.of_run (ARun.mvV (.inr rfl) rfl) ?_
  refine AOps.nil ?_
  rw [Int.toNat_natCast, Nat.mul_one, rep_eB]
  (repeat (first | refine AC.seq ?_ | refine AC.block ?_ | refine AC.skip ?_ | refine AC.exit ?_))
  (repeat (first | refine AC.seq ?_ | refine AC.block ?_ | refine AC.skip ?_))
  refine AC.region ?_
  refine AOps.step rfl rfl ?_
  refine AOp.of_run (ARun.mvL (.inl rfl) rfl) ?_
  refine AOps.step rfl rfl ?_
  refine AOp.of_run (ARun.lenL rfl rfl) ?_
  refine AOps.step rfl rfl ?_
  refine AOp.of_run (ARun.eql rfl rfl rfl) ?_
  cases g2 : decide ((succ.length : Int) = 0)
  case true => exfalso; simp at g2; exact h0 g2
  refine AOps.step rfl rfl ?_
  refine AOp.of_run (ARun.mvV (.inl rfl) rfl) ?_
  refine AOps.want rfl rfl (by decide) rfl ?_
  refine AOps.step rfl rfl ?_
  refine AOp.of_run (ARun.mvV (.inl rfl) rfl) ?_
  refine AOps.want rfl rfl (by decide) rfl ?_
  refine AOps.step rfl rfl ?_
  refine AOp.of_run (ARun.eql rfl rfl rfl) ?_
  refine AOps.step rfl rfl (AOp.of_run (ARun.pickF rfl rfl) ?_)
  refine AOps.nil ?_
  (repeat (first | refine AC.seq ?_ | refine AC.block ?_ | refine AC.skip ?_)); refine AC.cond rfl (fun hc => ?_) (fun hc => ?_)
  · have hw : w = 0 := by simpa using hc
    (repeat (first | refine AC.seq ?_ | refine AC.block ?_ | refine AC.skip ?_))
    refine AC.region ?_
    refine AOps.step rfl rfl ?_
    refine AOp.of_run (ARun.mvV (.inl rfl) rfl) ?_
    refine AOps.step rfl rfl ?_
    refine AOp.of_run (ARun.mvV (.inr rfl) rfl) ?_
    refine AOps.nil ?_
    refine AC.ret (ARes.le (Le.freezeMade (d := 4) rfl (Nat.le_refl _) (hset_same _ _ _)) ?_)
    rw [hset_hset, hset_id hb]
    refine ARes.one rfl (RV.L rfl) ⟨⟨List.replicate succ.length false, ?_, by simp, fun i hi => ?_⟩, rfl⟩
    · simp [eBs]
    · simp [hi, hw]
  have hw : w ≠ 0 := by simpa using hc
  (repeat (first | refine AC.seq ?_ | refine AC.block ?_ | refine AC.skip ?_))
  refine AC.region ?_
  refine AOps.step rfl rfl (AOp.buildOwn rfl (fun x1 h1 ho1 => ?_))
  refine AOps.step rfl rfl ?_
  refine AOp.of_run (ARun.assign rfl) ?_
  refine AOps.nil ?_
  (repeat (first | refine AC.seq ?_ | refine AC.block ?_ | refine AC.skip ?_ | refine AC.exit ?_))
  refine AC.loop (fun m τ h' => ∃ (S : List Bool) (T : List Int) (x6 : AVal), m = S.count false * 1000001 + T.length ∧ T.length + S.count false * 1000000 ≤ succ.length * 1000000 + 1 ∧ Slots τ [(0, eIss succ), (1, eI w), (5, .v (.slice (some ⟨b, 0, none⟩) succ.length succ.length)), (6, x6)] ∧ TD succ w S T ∧ Own (hset h b (some (.cells (S.map eB) 4 succ.length))) 3 1 T.length (T.map eI) x6 h') (succ.length * 1000001 + 1) ?_ ?_
  · exact ⟨List.replicate succ.length false, [0], _, by simp, by simp; omega, ⟨rfl, rfl, rfl, rfl, trivial⟩, TD.start hpos, ho1⟩
  clear ho1
  rintro m τ h' ⟨S, T, x6, rfl, hsz, hs, td, ho⟩
  obtain ⟨t0, rfl⟩ := hs.open_
  have hSl := td.len
  obtain ⟨a6, c6, hx6, hc6⟩ := ho.isSlice
  subst hx6
  (repeat (first | refine AC.seq ?_ | refine AC.block ?_ | refine AC.skip ?_))
  refine AC.region ?_
  refine AOps.step rfl rfl ?_
  refine AOp.of_run (ARun.mvV (.inl rfl) rfl) ?_
  refine AOps.step rfl rfl ?_
  refine AOp.of_run (ARun.lenV rfl rfl) ?_
  refine AOps.step rfl rfl ?_
  refine AOp.of_run (ARun.gtr rfl rfl rfl) ?_
  refine AOps.nil ?_
  (repeat (first | refine AC.seq ?_ | refine AC.block ?_ | refine AC.skip ?_)); refine AC.cond rfl (fun hc => ?_) (fun hc => ?_)
  · have hTl : 0 < T.length := by simpa using hc
    obtain ⟨T0, x, rfl⟩ : ∃ T0 x, T = T0 ++ [x] := ⟨T.dropLast, T.getLast (List.ne_nil_of_length_pos hTl), (List.dropLast_concat_getLast _).symm⟩
    have hxr := td.todo x (by simp)
    obtain ⟨k, rfl⟩ : ∃ k : Nat, x = k := ⟨x.toNat, by omega⟩
    have hlt : k < succ.length := by omega
    have hTl2 : (T0 ++ [(k : Int)]).length = T0.length + 1 := by simp
    rw [hTl2] at ho hsz ⊢
    obtain ⟨bT, cT, e, hbT, _, _, hh⟩ := ho.blk (by omega)
    injection e with e; injection e with e1 _ e3; subst e1; subst e3
    have hcell : h' bT = some (.cells ((T0 ++ [(k : Int)]).map eI) 3 (c6 * 1)) := by rw [hh]; exact hset_same _ _ _
    have hi28 : IntKind.i64.wrap (((T0.length + 1 : Nat) : Int) - 1) = T0.length := by rw [wrap_i64 (by omega) (by omega)]; omega
    have hget : ((T0 ++ [(k : Int)]).map eI)[0 + (IntKind.i64.wrap (((T0.length + 1 : Nat) : Int) - 1)).toNat * 1]? = some (eI k) := by
      rw [hi28, Int.toNat_natCast, Nat.zero_add, Nat.mul_one, List.getElem?_map]; simp
    (repeat (first | refine AC.seq ?_ | refine AC.block ?_ | refine AC.skip ?_ | refine AC.exit ?_))
    (repeat (first | refine AC.seq ?_ | refine AC.block ?_ | refine AC.skip ?_))
    refine AC.region ?_
    refine AOps.step rfl rfl ?_
    refine AOp.of_run (ARun.mvV (.inl rfl) rfl) ?_
    refine AOps.step rfl rfl ?_
    refine AOp.of_run (ARun.mvV (.inl rfl) rfl) ?_
    refine AOps.step rfl rfl ?_
    refine AOp.of_run (ARun.lenV rfl rfl) ?_
    refine AOps.step rfl rfl ?_
    refine AOp.of_run (ARun.sub rfl rfl rfl) ?_
    refine AOps.step rfl rfl (AOp.of_run (ARun.indexAddr rfl rfl rfl (by omega) (by omega)) ?_)
    refine AOps.step rfl rfl (AOp.of_run (ARun.load rfl rfl hcell hget) ?_)
    refine AOps.step rfl rfl ?_
    refine AOp.of_run (ARun.mvV (.inr rfl) rfl) ?_
    refine AOps.nil ?_
    (repeat (first | refine AC.seq ?_ | refine AC.block ?_ | refine AC.skip ?_))
    refine AC.region ?_
    refine AOps.step rfl rfl ?_
    refine AOp.of_run (ARun.mvV (.inl rfl) rfl) ?_
    refine AOps.step rfl rfl ?_
    refine AOp.of_run (ARun.mvV (.inl rfl) rfl) ?_
    refine AOps.step rfl rfl ?_
    refine AOp.of_run (ARun.lenV rfl rfl) ?_
    refine AOps.step rfl rfl ?_
    refine AOp.of_run (ARun.sub rfl rfl rfl) ?_
    refine AOps.step rfl rfl (AOp.cut rfl ho rfl (by omega) (by omega) fun x7 h7 ho7 => ?_)
    rw [hi28, Int.toNat_natCast, Nat.mul_one, ← List.map_take, List.take_left] at ho7
    refine AOps.step rfl rfl ?_
    refine AOp.of_run (ARun.assign rfl) ?_
    refine AOps.nil ?_
    obtain ⟨s, hSk⟩ : ∃ s, S[k]? = some s := ⟨S[k]'(by omega), List.getElem?_eq_getElem _⟩
    have hb7 := ho7.get (hset_same h b _)
    have hget2 : (S.map eB)[0 + ((k : Int)).toNat * 1]? = some (eB s) := by
      rw [Int.toNat_natCast, Nat.zero_add, Nat.mul_one, List.getElem?_map, hSk]; rfl
    (repeat (first | refine AC.seq ?_ | refine AC.block ?_ | refine AC.skip ?_))
    refine AC.region ?_
    refine AOps.step rfl rfl ?_
    refine AOp.of_run (ARun.mvV (.inl rfl) rfl) ?_
    refine AOps.step rfl rfl ?_
    refine AOp.of_run (ARun.mvV (.inl rfl) rfl) ?_
    refine AOps.step rfl rfl ?_
    refine AOp.of_run (ARun.indexAddr rfl rfl rfl (by omega) (by omega)) ?_
    refine AOps.step rfl rfl (AOp.of_run (ARun.load rfl rfl hb7 hget2) ?_)
    refine AOps.nil ?_
    (repeat (first | refine AC.seq ?_ | refine AC.block ?_ | refine AC.skip ?_)); refine AC.cond rfl (fun hc => ?_) (fun hc => ?_)
    · subst hc
      (repeat (first | refine AC.seq ?_ | refine AC.block ?_ | refine AC.skip ?_ | refine AC.exit ?_))
      exact ⟨S.count false * 1000001 + T0.length, by omega, S, T0, x7, rfl, by omega, ⟨rfl, rfl, rfl, rfl, trivial⟩, td.pop (by rw [Int.toNat_natCast]; exact hSk), ho7⟩
    · subst hc
      (repeat (first | refine AC.seq ?_ | refine AC.block ?_ | refine AC.skip ?_ | refine AC.exit ?_))
      (repeat (first | refine AC.seq ?_ | refine AC.block ?_ | refine AC.skip ?_))
      refine AC.region ?_
      refine AOps.step rfl rfl ?_
      refine AOp.of_run (ARun.mvV (.inl rfl) rfl) ?_
      refine AOps.step rfl rfl ?_
      refine AOp.of_run (ARun.mvV (.inl rfl) rfl) ?_
      refine AOps.step rfl rfl ?_
      refine AOp.of_run (ARun.indexAddr rfl rfl rfl (by omega) (by omega)) ?_
      refine AOps.step rfl rfl (AOp.store1 rfl rfl hb7 rfl (by simp; omega) ?_)
      refine AOps.nil ?_
      have ho8 := ho7.upd (.cells ((S.map eB).set (0 + ((k : Int)).toNat * 1) (.v (.bool true))) 4 succ.length) (hset_same h b _)
      have e : (S.map eB).set (0 + ((k : Int)).toNat * 1) (.v (.bool true)) = (S.set k true).map eB := by
        rw [Int.toNat_natCast, Nat.zero_add, Nat.mul_one, List.map_set]; rfl
      rw [hset_hset, e] at ho8
      rw [e]
      generalize hset h7 b _ = h8 at ho8 ⊢
      have hcnt := count_set S k hSk
      have htake := td.take
      rw [← may_filter succ w hlt] at htake
      have hRl := hm _ (List.getElem_mem hlt)
      (repeat (first | refine AC.seq ?_ | refine AC.block ?_ | refine AC.skip ?_))
      refine AC.region ?_
      refine AOps.step rfl rfl ?_
      refine AOp.of_run (ARun.mvV (.inr rfl) rfl) ?_
      refine AOps.nil ?_
      (repeat (first | refine AC.seq ?_ | refine AC.block ?_ | refine AC.skip ?_ | refine AC.exit ?_))
      refine AC.loop (fun m τ h' => ∃ (j : Nat) (x8 : AVal), j ≤ succ[k].length ∧ m = succ[k].length - j ∧ Slots τ [(0, eIss succ), (1, eI w), (5, .v (.slice (some ⟨b, 0, none⟩) succ.length succ.length)), (6, x8), (7, eI k), (8, eI j)] ∧ Own (hset h b (some (.cells ((S.set k true).map eB) 4 succ.length))) 3 1 (T0 ++ (succ[k].take j).filter (may succ.length w)).length ((T0 ++ (succ[k].take j).filter (may succ.length w)).map eI) x8 h') succ[k].length ?_ ?_
      · exact ⟨0, x7, Nat.zero_le _, rfl, ⟨rfl, rfl, rfl, rfl, rfl, rfl, trivial⟩, by simpa using ho8⟩
      clear ho8 ho7 hb7 ho hcell
      rintro m τ h' ⟨j, x8, hj, rfl, hs, ho8⟩
      obtain ⟨t0, rfl⟩ := hs.open_
      have hfl := List.length_filter_le (may succ.length w) (succ[k].take j)
      have hfl2 := List.length_take_le j succ[k]
      have hTT : (T0 ++ (succ[k].take j).filter (may succ.length w)).length ≤ T0.length + j := by
        rw [List.length_append]; have := List.length_take_le' j succ[k]; have : (succ[k].take j).length ≤ j := by rw [List.length_take]; omega
        omega
      (repeat (first | refine AC.seq ?_ | refine AC.block ?_ | refine AC.skip ?_))
      refine AC.region ?_
      refine AOps.step rfl rfl ?_
      refine AOp.of_run (ARun.mvV (.inl rfl) rfl) ?_
      refine AOps.step rfl rfl ?_
      refine AOp.of_run (ARun.mvL (.inl rfl) rfl) ?_
      refine AOps.step rfl rfl ?_
      refine AOp.of_run (ARun.mvV (.inl rfl) rfl) ?_
      refine AOps.step rfl rfl ?_
      refine AOp.of_run (ARun.indexAddrL rfl rfl rfl (by omega) (by omega)) ?_
      refine AOps.step rfl rfl ?_
      refine AOp.of_run (ARun.loadL rfl rfl (get_map hlt)) ?_
      refine AOps.step rfl rfl ?_
      refine AOp.of_run (ARun.lenL rfl rfl) ?_
      refine AOps.step rfl rfl ?_
      refine AOp.of_run (ARun.lss rfl rfl rfl) ?_
      refine AOps.nil ?_
      (repeat (first | refine AC.seq ?_ | refine AC.block ?_ | refine AC.skip ?_)); refine AC.cond rfl (fun hc => ?_) (fun hc => ?_)
      · have hlt2 : j < succ[k].length := by simpa using hc
        (repeat (first | refine AC.seq ?_ | refine AC.block ?_ | refine AC.skip ?_ | refine AC.exit ?_))
        (repeat (first | refine AC.seq ?_ | refine AC.block ?_ | refine AC.skip ?_))
        refine AC.region ?_
        refine AOps.step rfl rfl ?_
        refine AOp.of_run (ARun.mvL (.inl rfl) rfl) ?_
        refine AOps.step rfl rfl ?_
        refine AOp.of_run (ARun.mvV (.inl rfl) rfl) ?_
        refine AOps.step rfl rfl ?_
        refine AOp.of_run (ARun.indexAddrL rfl rfl rfl (by omega) (by omega)) ?_
        refine AOps.step rfl rfl ?_
        refine AOp.of_run (ARun.loadL rfl rfl (get_map hlt)) ?_
        refine AOps.step rfl rfl ?_
        refine AOp.of_run (ARun.mvV (.inl rfl) rfl) ?_
        refine AOps.step rfl rfl ?_
        refine AOp.of_run (ARun.indexAddrL rfl rfl rfl (by omega) (by omega)) ?_
        refine AOps.step rfl rfl ?_
        refine AOp.of_run (ARun.loadL rfl rfl (get_map hlt2)) ?_
        refine AOps.step rfl rfl ?_
        refine AOp.of_run (ARun.mvV (.inr rfl) rfl) ?_
        refine AOps.nil ?_
        (repeat (first | refine AC.seq ?_ | refine AC.block ?_ | refine AC.skip ?_ | refine AC.exit ?_))
        refine AC.mono (Q := fun e τ h3 => e = .normal ∧ h3 = h' ∧ Slots τ [(0, eIss succ), (1, eI w), (5, .v (.slice (some ⟨b, 0, none⟩) succ.length succ.length)), (6, x8), (7, eI k), (8, eI j), (9, eI succ[k][j]), (71, eB (may succ.length w succ[k][j]))]) ?_ ?_
        · unfold may
          (repeat (first | refine AC.seq ?_ | refine AC.block ?_ | refine AC.skip ?_))
          refine AC.region ?_
          refine AOps.step rfl rfl ?_
          refine AOp.of_run (ARun.mvV (.inl rfl) rfl) ?_
          refine AOps.step rfl rfl ?_
          refine AOp.of_run (ARun.geq rfl rfl rfl) ?_
          refine AOps.step rfl rfl ?_
          refine AOp.of_run (ARun.mvV (.inl rfl) rfl) ?_
          cases g3 : decide (0 ≤ succ[k][j])
          · refine AOps.passU rfl rfl (by decide) rfl rfl rfl ?_
            refine AOps.passU rfl rfl (by decide) rfl rfl rfl ?_
            refine AOps.passU rfl rfl (by decide) rfl rfl rfl ?_
            refine AOps.passU rfl rfl (by decide) rfl rfl rfl ?_
            refine AOps.step rfl rfl (AOp.of_run (ARun.pickF rfl rfl) ?_)
            refine AOps.step rfl rfl ?_
            refine AOp.of_run (ARun.mvV (.inl rfl) rfl) ?_
            refine AOps.passU rfl rfl (by decide) rfl rfl rfl ?_
            refine AOps.passU rfl rfl (by decide) rfl rfl rfl ?_
            refine AOps.passU rfl rfl (by decide) rfl rfl rfl ?_
            refine AOps.step rfl rfl (AOp.of_run (ARun.pickF rfl rfl) ?_)
            refine AOps.nil ?_
            exact ⟨rfl, rfl, rfl, rfl, rfl, rfl, rfl, rfl, rfl, rfl, trivial⟩
          · refine AOps.want rfl rfl (by decide) rfl ?_
            refine AOps.step rfl rfl ?_
            refine AOp.of_run (ARun.mvV (.inl rfl) rfl) ?_
            refine AOps.want rfl rfl (by decide) rfl ?_
            refine AOps.step rfl rfl ?_
            refine AOp.of_run (ARun.mvL (.inl rfl) rfl) ?_
            refine AOps.want rfl rfl (by decide) rfl ?_
            refine AOps.step rfl rfl ?_
            refine AOp.of_run (ARun.lenL rfl rfl) ?_
            refine AOps.want rfl rfl (by decide) rfl ?_
            refine AOps.step rfl rfl ?_
            refine AOp.of_run (ARun.lss rfl rfl rfl) ?_
            refine AOps.step rfl rfl (AOp.of_run (ARun.pickT rfl rfl) ?_)
            refine AOps.step rfl rfl ?_
            refine AOp.of_run (ARun.mvV (.inl rfl) rfl) ?_
            cases g4 : decide (succ[k][j] < (succ.length : Int))
            · refine AOps.passU rfl rfl (by decide) rfl rfl rfl ?_
              refine AOps.passU rfl rfl (by decide) rfl rfl rfl ?_
              refine AOps.passU rfl rfl (by decide) rfl rfl rfl ?_
              refine AOps.step rfl rfl (AOp.of_run (ARun.pickF rfl rfl) ?_)
              refine AOps.nil ?_
              exact ⟨rfl, rfl, rfl, rfl, rfl, rfl, rfl, rfl, rfl, rfl, trivial⟩
            · refine AOps.want rfl rfl (by decide) rfl ?_
              refine AOps.step rfl rfl ?_
              refine AOp.of_run (ARun.mvV (.inl rfl) rfl) ?_
              refine AOps.want rfl rfl (by decide) rfl ?_
              refine AOps.step rfl rfl ?_
              refine AOp.of_run (ARun.mvV (.inl rfl) rfl) ?_
              refine AOps.want rfl rfl (by decide) rfl ?_
              refine AOps.step rfl rfl ?_
              refine AOp.of_run (ARun.neq rfl rfl rfl) ?_
              refine AOps.step rfl rfl (AOp.of_run (ARun.pickT rfl rfl) ?_)
              refine AOps.nil ?_
              exact ⟨rfl, rfl, rfl, rfl, rfl, rfl, rfl, rfl, rfl, rfl, trivial⟩
        rintro _ τ _ ⟨rfl, rfl, hs⟩
        obtain ⟨t1, rfl⟩ := hs.open_
        (repeat (first | refine AC.seq ?_ | refine AC.block ?_ | refine AC.skip ?_)); refine AC.cond rfl (fun hc => ?_) (fun hc => ?_)
        · (repeat (first | refine AC.seq ?_ | refine AC.block ?_ | refine AC.skip ?_))
          refine AC.region ?_
          refine AOps.step rfl rfl ?_
          refine AOp.of_run (ARun.move rfl) ?_
          refine AOps.step rfl rfl ?_
          refine AOp.of_run (ARun.mvV (.inl rfl) rfl) ?_
          refine AOps.step rfl rfl ?_
          refine AOp.buildSlice rfl ?_
          refine AOps.step rfl rfl (AOp.append rfl ho8 (RdSl.ls (by rfl)) (by unfold maxLen; omega) (by omega) fun x9 h9 ho9 => ?_)
          refine AOps.step rfl rfl ?_
          refine AOp.of_run (ARun.assign rfl) ?_
          refine AOps.nil ?_
          (repeat (first | refine AC.seq ?_ | refine AC.block ?_ | refine AC.skip ?_))
          refine AC.region ?_
          refine AOps.step rfl rfl ?_
          refine AOp.of_run (ARun.mvV (.inl rfl) rfl) ?_
          refine AOps.step rfl rfl ?_
          refine AOp.of_run (ARun.add rfl rfl rfl) ?_
          refine AOps.step rfl rfl ?_
          refine AOp.of_run (ARun.mvV (.inr rfl) rfl) ?_
          refine AOps.nil ?_
          refine ⟨_, by omega, j + 1, x9, hlt2, rfl, ⟨rfl, rfl, rfl, rfl, rfl, eI_wrap (by omega) (by omega) (by omega), trivial⟩, ?_⟩
          rw [filter_take_succ _ hlt2, if_pos hc, ← List.append_assoc, List.length_append, List.map_append]
          exact ho9
        · (repeat (first | refine AC.seq ?_ | refine AC.block ?_ | refine AC.skip ?_ | refine AC.exit ?_))
          (repeat (first | refine AC.seq ?_ | refine AC.block ?_ | refine AC.skip ?_))
          refine AC.region ?_
          refine AOps.step rfl rfl ?_
          refine AOp.of_run (ARun.mvV (.inl rfl) rfl) ?_
          refine AOps.step rfl rfl ?_
          refine AOp.of_run (ARun.add rfl rfl rfl) ?_
          refine AOps.step rfl rfl ?_
          refine AOp.of_run (ARun.mvV (.inr rfl) rfl) ?_
          refine AOps.nil ?_
          refine ⟨_, by omega, j + 1, x8, hlt2, rfl, ⟨rfl, rfl, rfl, rfl, rfl, eI_wrap (by omega) (by omega) (by omega), trivial⟩, ?_⟩
          rw [filter_take_succ _ hlt2, if_neg (by rw [hc]; simp), List.append_nil]
          exact ho8
      · have hge : j = succ[k].length := by simp at hc; omega
        subst hge
        rw [take_all (Nat.le_refl _)] at ho8 hTT
        (repeat (first | refine AC.seq ?_ | refine AC.block ?_ | refine AC.skip ?_ | refine AC.exit ?_))
        exact ⟨(S.set k true).count false * 1000001 + (T0 ++ succ[k].filter (may succ.length w)).length, by omega, S.set k true, _, x8, rfl, by omega, ⟨rfl, rfl, rfl, rfl, trivial⟩, htake, ho8⟩
  · have hT0 : T = [] := List.eq_nil_of_length_eq_zero (by simpa using hc)
    subst hT0
    (repeat (first | refine AC.seq ?_ | refine AC.block ?_ | refine AC.skip ?_ | refine AC.exit ?_))
    (repeat (first | refine AC.seq ?_ | refine AC.block ?_ | refine AC.skip ?_))
    refine AC.region ?_
    refine AOps.step rfl rfl ?_
    refine AOp.of_run (ARun.mvV (.inl rfl) rfl) ?_
    refine AOps.step rfl rfl ?_
    refine AOp.of_run (ARun.mvV (.inr rfl) rfl) ?_
    refine AOps.nil ?_
    refine AC.ret (ARes.le (Le.sub (h' := hset h b (some (.cells (S.map eB) 4 succ.length))) ho.freeze.1) (ARes.le (Le.freezeMade (d := 4) rfl (Nat.le_refl _) (hset_same _ _ _)) ?_))
    rw [hset_hset, hset_id hb]
    refine ARes.one rfl (RV.L rfl) ⟨⟨S, ?_, hSl, fun i hi => ?_⟩, rfl⟩
    · rw [eBs, hSl]
    · rw [td.done hi]; exact ⟨fun q => ⟨hw, q⟩, fun q => q.2⟩
end Go.Proofs.Ytilanageangegaa
