/- Walks and laws for LawFree (2): WRef2, WDm, WIr1, WRefI1, WRefI2, WIr2, WIr3, WRefI3, WWord1, Ab12, WWord2, WAlu. No statement of the seat is proved here. -/
import Derived.Test.YtilanageangegaaF1
import Derived.Laws.Bits64

/- Walks of the document's answer for layer 15: Reach, Table. -/
set_option linter.unusedVariables false
namespace Go.Proofs.Ytilanageangegaa
open Go.Ab

def RB (succ : List (List Int)) (S : List Bool) : Prop := S.length = succ.length ∧ ∀ i, i < succ.length → (S[i]? = some true ↔ RW succ (-1) i)
set_option maxRecDepth 10000 in
theorem Reach15_spec (succ : List (List Int)) (h : AHeap) (h0 : succ ≠ []) (hn : succ.length ≤ 1000000) (hm : ∀ l ∈ succ, l.length ≤ 1000000) :
    Sp Try.prog 69 [eIss succ] h (fun r h' => (∃ S : List Bool, r = eBs S ∧ RB succ S) ∧ h' = h) := by
  refine Sp.of Try.func69 rfl rfl (by show 1 ≤ 5; decide) ?_
  (repeat (first | refine AC.seq ?_ | refine AC.block ?_ | refine AC.skip ?_))
  refine AC.region ?_
  refine AOps.step rfl rfl ?_
  refine AOp.of_run (ARun.mvV (.inr rfl) rfl) ?_
  refine AOps.nil ?_
  (repeat (first | refine AC.seq ?_ | refine AC.block ?_ | refine AC.skip ?_))
  refine AC.region ?_
  refine AOps.step rfl rfl ?_
  refine AOp.of_run (ARun.mvL (.inl rfl) rfl) ?_
  refine AOps.step rfl rfl (AOp.call_ rfl rfl ((walk15_spec succ (-1) h h0 hn hm).mono ?_))
  rintro _ _ ⟨⟨S, rfl, hl, hS⟩, rfl⟩
  refine AOps.step rfl rfl ?_
  refine AOp.of_run (ARun.mvL (.inr rfl) rfl) ?_
  refine AOps.nil ?_
  refine AC.ret (ARes.one rfl (RV.L rfl) ⟨⟨S, rfl, hl, fun i hi => ?_⟩, rfl⟩)
  rw [hS i hi]; simp

/-- Of a and b: does the one dominate the other? -/
def Dm (succ : List (List Int)) (a b : Nat) : Prop := (RW succ (-1) a ∧ RW succ (-1) b) ∧ (a = b ∨ ¬ ((a : Int) ≠ 0 ∧ RW succ a b))
def RowOK (succ : List (List Int)) (a k : Nat) (L : List Bool) : Prop := L.length = succ.length ∧ ∀ b, b < k → (L[b]? = some true ↔ Dm succ a b)

set_option maxRecDepth 10000 in
theorem Table_spec (succ : List (List Int)) (h : AHeap) (h0 : succ ≠ []) (hn : succ.length ≤ 1000000) (hm : ∀ l ∈ succ, l.length ≤ 1000000) :
    Sp Try.prog 44 [eIss succ] h (fun r h' => (∃ D : List (List Bool), r = eBss D ∧ D.length = succ.length ∧ ∀ a (ha : a < D.length), RowOK succ a succ.length D[a]) ∧ h' = h) := by
  refine Sp.of Try.func44 rfl rfl (by show 1 ≤ 59; decide) ?_
  (repeat (first | refine AC.seq ?_ | refine AC.block ?_ | refine AC.skip ?_))
  refine AC.region ?_
  refine AOps.step rfl rfl ?_
  refine AOp.of_run (ARun.mvV (.inr rfl) rfl) ?_
  refine AOps.nil ?_
  (repeat (first | refine AC.seq ?_ | refine AC.block ?_ | refine AC.skip ?_))
  refine AC.region ?_
  refine AOps.step rfl rfl ?_
  refine AOp.of_run (ARun.mvL (.inl rfl) rfl) ?_
  refine AOps.step rfl rfl (AOp.call_ rfl rfl ((Reach15_spec succ h h0 hn hm).mono ?_))
  rintro _ _ ⟨⟨S, rfl, hSl, hS⟩, rfl⟩
  refine AOps.step rfl rfl ?_
  refine AOp.of_run (ARun.mvL (.inr rfl) rfl) ?_
  refine AOps.nil ?_
  (repeat (first | refine AC.seq ?_ | refine AC.block ?_ | refine AC.skip ?_))
  refine AC.region ?_
  refine AOps.step rfl rfl ?_
  refine AOp.of_run (ARun.mvV (.inr rfl) rfl) ?_
  refine AOps.nil ?_
  (repeat (first | refine AC.seq ?_ | refine AC.block ?_ | refine AC.skip ?_))
  refine AC.region ?_
  refine AOps.step rfl rfl ?_
  refine AOp.of_run (ARun.mvV (.inr rfl) rfl) ?_
  refine AOps.nil ?_
  rename_i h
  (repeat (first | refine AC.seq ?_ | refine AC.block ?_ | refine AC.skip ?_ | refine AC.exit ?_))
  refine AC.loop (fun m τ h' => ∃ (a : Nat) (D : List (List Bool)) (x4 : AVal), a ≤ succ.length ∧ m = succ.length - a ∧ Slots τ [(0, eIss succ), (3, eBs S), (4, x4), (5, eI a)] ∧ D.length = a ∧ (∀ a (ha : a < D.length), RowOK succ a succ.length D[a]) ∧ Own h 49 1 a (D.map eBs) x4 h') succ.length ?_ ?_
  · exact ⟨0, [], _, Nat.zero_le _, rfl, ⟨rfl, rfl, rfl, rfl, trivial⟩, rfl, fun a ha => by simp at ha, Own.nil h 49 1⟩
  rintro m τ h1 ⟨a, D, x4, ha, rfl, hs, hDl, hD, ho⟩
  obtain ⟨t0, rfl⟩ := hs.open_
  (repeat (first | refine AC.seq ?_ | refine AC.block ?_ | refine AC.skip ?_))
  refine AC.region ?_
  refine AOps.step rfl rfl ?_
  refine AOp.of_run (ARun.mvV (.inl rfl) rfl) ?_
  refine AOps.step rfl rfl ?_
  refine AOp.of_run (ARun.mvL (.inl rfl) rfl) ?_
  refine AOps.step rfl rfl ?_
  refine AOp.of_run (ARun.lenL rfl rfl) ?_
  refine AOps.step rfl rfl ?_
  refine AOp.of_run (ARun.lss rfl rfl rfl) ?_
  refine AOps.nil ?_
  (repeat (first | refine AC.seq ?_ | refine AC.block ?_ | refine AC.skip ?_)); refine AC.cond rfl (fun hc => ?_) (fun hc => ?_)
  · have hlt : a < succ.length := by simpa using hc
    (repeat (first | refine AC.seq ?_ | refine AC.block ?_ | refine AC.skip ?_ | refine AC.exit ?_))
    (repeat (first | refine AC.seq ?_ | refine AC.block ?_ | refine AC.skip ?_))
    refine AC.region ?_
    refine AOps.step rfl rfl ?_
    refine AOp.of_run (ARun.mvL (.inl rfl) rfl) ?_
    refine AOps.step rfl rfl ?_
    refine AOp.of_run (ARun.mvV (.inl rfl) rfl) ?_
    refine AOps.step rfl rfl (AOp.call_ rfl rfl ((walk15_spec succ a h1 h0 hn hm).mono ?_))
    rintro _ _ ⟨⟨W, rfl, hWl, hW⟩, rfl⟩
    rename_i h1
    refine AOps.step rfl rfl ?_
    refine AOp.of_run (ARun.mvL (.inr rfl) rfl) ?_
    refine AOps.nil ?_
    (repeat (first | refine AC.seq ?_ | refine AC.block ?_ | refine AC.skip ?_))
    refine AC.region ?_
    refine AOps.step rfl rfl ?_
    refine AOp.of_run (ARun.mvL (.inl rfl) rfl) ?_
    refine AOps.step rfl rfl ?_
    refine AOp.of_run (ARun.lenL rfl rfl) ?_
    refine AOps.step rfl rfl (AOp.makeSlice rfl rfl rfl (by omega) (by omega) (by omega) (fun b hb => ?_))
    refine AOps.step rfl rfl ?_
    refine AOp.of_run (ARun.mvV (.inr rfl) rfl) ?_
    refine AOps.nil ?_
    rw [Int.toNat_natCast, Nat.mul_one, rep_eB]
    (repeat (first | refine AC.seq ?_ | refine AC.block ?_ | refine AC.skip ?_ | refine AC.exit ?_))
    (repeat (first | refine AC.seq ?_ | refine AC.block ?_ | refine AC.skip ?_))
    refine AC.region ?_
    refine AOps.step rfl rfl ?_
    refine AOp.of_run (ARun.mvV (.inr rfl) rfl) ?_
    refine AOps.nil ?_
    (repeat (first | refine AC.seq ?_ | refine AC.block ?_ | refine AC.skip ?_ | refine AC.exit ?_))
    refine AC.loop (fun m τ h2 => ∃ (j : Nat) (L : List Bool), j ≤ succ.length ∧ m = succ.length - j ∧ Slots τ [(0, eIss succ), (3, eBs S), (4, x4), (5, eI a), (6, eBs W), (7, .v (.slice (some ⟨b, 0, none⟩) succ.length succ.length)), (8, eI j)] ∧ RowOK succ a j L ∧ h2 = hset h1 b (some (.cells (L.map eB) 4 succ.length))) succ.length ?_ ?_
    · exact ⟨0, List.replicate succ.length false, Nat.zero_le _, rfl, ⟨rfl, rfl, rfl, rfl, rfl, rfl, rfl, trivial⟩, ⟨by simp, fun b hb => by omega⟩, rfl⟩
    rintro m τ h2 ⟨j, L, hj, rfl, hs, ⟨hLl, hL⟩, rfl⟩
    obtain ⟨t0, rfl⟩ := hs.open_
    (repeat (first | refine AC.seq ?_ | refine AC.block ?_ | refine AC.skip ?_))
    refine AC.region ?_
    refine AOps.step rfl rfl ?_
    refine AOp.of_run (ARun.mvV (.inl rfl) rfl) ?_
    refine AOps.step rfl rfl ?_
    refine AOp.of_run (ARun.mvL (.inl rfl) rfl) ?_
    refine AOps.step rfl rfl ?_
    refine AOp.of_run (ARun.lenL rfl rfl) ?_
    refine AOps.step rfl rfl ?_
    refine AOp.of_run (ARun.lss rfl rfl rfl) ?_
    refine AOps.nil ?_
    (repeat (first | refine AC.seq ?_ | refine AC.block ?_ | refine AC.skip ?_)); refine AC.cond rfl (fun hc => ?_) (fun hc => ?_)
    · have hlt2 : j < succ.length := by simpa using hc
      obtain ⟨sa, hsa⟩ : ∃ s, S[a]? = some s := ⟨S[a]'(by omega), List.getElem?_eq_getElem _⟩
      obtain ⟨sj, hsj⟩ : ∃ s, S[j]? = some s := ⟨S[j]'(by omega), List.getElem?_eq_getElem _⟩
      obtain ⟨wj, hwj⟩ : ∃ s, W[j]? = some s := ⟨W[j]'(by omega), List.getElem?_eq_getElem _⟩
      have g1 : (S.map eB)[((a : Int)).toNat * 1]? = some (eB sa) := by rw [Int.toNat_natCast, Nat.mul_one, List.getElem?_map, hsa]; rfl
      have g2 : (S.map eB)[((j : Int)).toNat * 1]? = some (eB sj) := by rw [Int.toNat_natCast, Nat.mul_one, List.getElem?_map, hsj]; rfl
      have g3 : (W.map eB)[((j : Int)).toNat * 1]? = some (eB wj) := by rw [Int.toNat_natCast, Nat.mul_one, List.getElem?_map, hwj]; rfl
      have key : ((sa && sj) && (decide ((a : Int) = j) || !wj)) = true ↔ Dm succ a j := by
        have e1 := hS a hlt
        have e2 := hS j hlt2
        have e3 := hW j hlt2
        rw [hsa] at e1; rw [hsj] at e2; rw [hwj] at e3
        unfold Dm
        rw [← e1, ← e2, ← e3]
        simp [Int.ofNat_inj]
      have fin : ∀ (q : Bool), (q = true ↔ Dm succ a j) → RowOK succ a (j + 1) (L.set j q) := fun q hq => by
        refine ⟨by rw [List.length_set]; exact hLl, fun i hi => ?_⟩
        by_cases e : i = j
        · subst e; rw [List.getElem?_set_self (by omega)]; simpa using hq
        · rw [List.getElem?_set_ne (Ne.symm e)]; exact hL i (by omega)
      have hset1 : ∀ q : Bool, (L.map eB).set (0 + ((j : Int)).toNat * 1) (.v (.bool q)) = (L.set j q).map eB := fun q => by
        rw [Int.toNat_natCast, Nat.zero_add, Nat.mul_one, List.map_set]; rfl
      (repeat (first | refine AC.seq ?_ | refine AC.block ?_ | refine AC.skip ?_ | refine AC.exit ?_))
      refine AC.mono (Q := fun e τ h3 => e = .normal ∧ (∃ q : Bool, (q = true ↔ Dm succ a j) ∧ h3 = hset h1 b (some (.cells ((L.set j q).map eB) 4 succ.length))) ∧ Slots τ [(0, eIss succ), (3, eBs S), (4, x4), (5, eI a), (6, eBs W), (7, .v (.slice (some ⟨b, 0, none⟩) succ.length succ.length)), (8, eI j)]) ?_ ?_
      · (repeat (first | refine AC.seq ?_ | refine AC.block ?_ | refine AC.skip ?_))
        refine AC.region ?_
        refine AOps.step rfl rfl ?_
        refine AOp.of_run (ARun.mvV (.inl rfl) rfl) ?_
        refine AOps.step rfl rfl ?_
        refine AOp.of_run (ARun.mvV (.inl rfl) rfl) ?_
        refine AOps.step rfl rfl ?_
        refine AOp.of_run (ARun.mvL (.inl rfl) rfl) ?_
        refine AOps.step rfl rfl ?_
        refine AOp.of_run (ARun.mvV (.inl rfl) rfl) ?_
        refine AOps.step rfl rfl ?_
        refine AOp.of_run (ARun.indexAddrL rfl rfl rfl (by omega) (by omega)) ?_
        refine AOps.step rfl rfl (AOp.of_run (ARun.loadL rfl rfl g1) ?_)
        refine AOps.step rfl rfl ?_
        refine AOp.of_run (ARun.mvV (.inl rfl) rfl) ?_
        cases sa
        · refine AOps.passU rfl rfl (by decide) rfl rfl rfl ?_
          refine AOps.passU rfl rfl (by decide) rfl rfl rfl ?_
          refine AOps.passU rfl rfl (by decide) rfl rfl rfl ?_
          refine AOps.passU rfl rfl (by decide) rfl rfl rfl ?_
          refine AOps.step rfl rfl (AOp.of_run (ARun.pickF rfl rfl) ?_)
          refine AOps.step rfl rfl ?_
          refine AOp.of_run (ARun.mvV (.inl rfl) rfl) ?_
          refine AOps.passU rfl rfl (by decide) rfl rfl rfl ?_
          refine AOps.passU rfl rfl (by decide) rfl rfl rfl ?_
          refine AOps.passU rfl rfl (by decide) rfl rfl rfl ?_
          refine AOps.passU rfl rfl (by decide) rfl rfl rfl ?_
          refine AOps.passU rfl rfl (by decide) rfl rfl rfl ?_
          refine AOps.passU rfl rfl (by decide) rfl rfl rfl ?_
          refine AOps.passU rfl rfl (by decide) rfl rfl rfl ?_
          refine AOps.passU rfl rfl (by decide) rfl rfl rfl ?_
          refine AOps.passU rfl rfl (by decide) rfl rfl rfl ?_
          refine AOps.passU rfl rfl (by decide) rfl rfl rfl ?_
          refine AOps.step rfl rfl (AOp.of_run (ARun.pickF rfl rfl) ?_)
          refine AOps.step rfl rfl ?_
          refine AOp.of_run (ARun.indexAddr rfl rfl rfl (by omega) (by omega)) ?_
          refine AOps.step rfl rfl (AOp.store1 rfl rfl (hset_same _ _ _) rfl (by simp; omega) ?_)
          refine AOps.nil ?_
          refine ⟨rfl, ⟨false, by rw [← key]; simp, ?_⟩, rfl, rfl, rfl, rfl, rfl, rfl, rfl, trivial⟩
          rw [hset_hset, ← hset1]
        · refine AOps.want rfl rfl (by decide) rfl ?_
          refine AOps.step rfl rfl ?_
          refine AOp.of_run (ARun.mvL (.inl rfl) rfl) ?_
          refine AOps.want rfl rfl (by decide) rfl ?_
          refine AOps.step rfl rfl ?_
          refine AOp.of_run (ARun.mvV (.inl rfl) rfl) ?_
          refine AOps.want rfl rfl (by decide) rfl ?_
          refine AOps.step rfl rfl ?_
          refine AOp.of_run (ARun.indexAddrL rfl rfl rfl (by omega) (by omega)) ?_
          refine AOps.want rfl rfl (by decide) rfl ?_
          refine AOps.step rfl rfl (AOp.of_run (ARun.loadL rfl rfl g2) ?_)
          refine AOps.step rfl rfl (AOp.of_run (ARun.pickT rfl rfl) ?_)
          refine AOps.step rfl rfl ?_
          refine AOp.of_run (ARun.mvV (.inl rfl) rfl) ?_
          cases sj
          · refine AOps.passU rfl rfl (by decide) rfl rfl rfl ?_
            refine AOps.passU rfl rfl (by decide) rfl rfl rfl ?_
            refine AOps.passU rfl rfl (by decide) rfl rfl rfl ?_
            refine AOps.passU rfl rfl (by decide) rfl rfl rfl ?_
            refine AOps.passU rfl rfl (by decide) rfl rfl rfl ?_
            refine AOps.passU rfl rfl (by decide) rfl rfl rfl ?_
            refine AOps.passU rfl rfl (by decide) rfl rfl rfl ?_
            refine AOps.passU rfl rfl (by decide) rfl rfl rfl ?_
            refine AOps.passU rfl rfl (by decide) rfl rfl rfl ?_
            refine AOps.passU rfl rfl (by decide) rfl rfl rfl ?_
            refine AOps.step rfl rfl (AOp.of_run (ARun.pickF rfl rfl) ?_)
            refine AOps.step rfl rfl ?_
            refine AOp.of_run (ARun.indexAddr rfl rfl rfl (by omega) (by omega)) ?_
            refine AOps.step rfl rfl (AOp.store1 rfl rfl (hset_same _ _ _) rfl (by simp; omega) ?_)
            refine AOps.nil ?_
            refine ⟨rfl, ⟨false, by rw [← key]; simp, ?_⟩, rfl, rfl, rfl, rfl, rfl, rfl, rfl, trivial⟩
            rw [hset_hset, ← hset1]
          · refine AOps.want rfl rfl (by decide) rfl ?_
            refine AOps.step rfl rfl ?_
            refine AOp.of_run (ARun.mvV (.inl rfl) rfl) ?_
            refine AOps.want rfl rfl (by decide) rfl ?_
            refine AOps.step rfl rfl ?_
            refine AOp.of_run (ARun.mvV (.inl rfl) rfl) ?_
            refine AOps.want rfl rfl (by decide) rfl ?_
            refine AOps.step rfl rfl ?_
            refine AOp.of_run (ARun.eql rfl rfl rfl) ?_
            refine AOps.want rfl rfl (by decide) rfl ?_
            refine AOps.step rfl rfl ?_
            refine AOp.of_run (ARun.mvV (.inl rfl) rfl) ?_
            cases ge : decide ((a : Int) = j)
            · refine AOps.want rfl rfl (by decide) rfl ?_
              refine AOps.step rfl rfl ?_
              refine AOp.of_run (ARun.mvL (.inl rfl) rfl) ?_
              refine AOps.want rfl rfl (by decide) rfl ?_
              refine AOps.step rfl rfl ?_
              refine AOp.of_run (ARun.mvV (.inl rfl) rfl) ?_
              refine AOps.want rfl rfl (by decide) rfl ?_
              refine AOps.step rfl rfl ?_
              refine AOp.of_run (ARun.indexAddrL rfl rfl rfl (by omega) (by omega)) ?_
              refine AOps.want rfl rfl (by decide) rfl ?_
              refine AOps.step rfl rfl (AOp.of_run (ARun.loadL rfl rfl g3) ?_)
              refine AOps.want rfl rfl (by decide) rfl ?_
              refine AOps.step rfl rfl ?_
              refine AOp.of_run (ARun.not rfl rfl) ?_
              refine AOps.want rfl rfl (by decide) rfl ?_
              refine AOps.step rfl rfl (AOp.of_run (ARun.pickF rfl rfl) ?_)
              refine AOps.step rfl rfl (AOp.of_run (ARun.pickT rfl rfl) ?_)
              refine AOps.step rfl rfl ?_
              refine AOp.of_run (ARun.indexAddr rfl rfl rfl (by omega) (by omega)) ?_
              refine AOps.step rfl rfl (AOp.store1 rfl rfl (hset_same _ _ _) rfl (by simp; omega) ?_)
              refine AOps.nil ?_
              refine ⟨rfl, ⟨!wj, by rw [← key, ge]; simp, ?_⟩, rfl, rfl, rfl, rfl, rfl, rfl, rfl, trivial⟩
              rw [hset_hset, ← hset1]
            · refine AOps.passU rfl rfl (by decide) rfl rfl rfl ?_
              refine AOps.passU rfl rfl (by decide) rfl rfl rfl ?_
              refine AOps.passU rfl rfl (by decide) rfl rfl rfl ?_
              refine AOps.passU rfl rfl (by decide) rfl rfl rfl ?_
              refine AOps.passU rfl rfl (by decide) rfl rfl rfl ?_
              refine AOps.want rfl rfl (by decide) rfl ?_
              refine AOps.step rfl rfl (AOp.of_run (ARun.pickT rfl rfl) ?_)
              refine AOps.step rfl rfl (AOp.of_run (ARun.pickT rfl rfl) ?_)
              refine AOps.step rfl rfl ?_
              refine AOp.of_run (ARun.indexAddr rfl rfl rfl (by omega) (by omega)) ?_
              refine AOps.step rfl rfl (AOp.store1 rfl rfl (hset_same _ _ _) rfl (by simp; omega) ?_)
              refine AOps.nil ?_
              refine ⟨rfl, ⟨true, by rw [← key, ge]; simp, ?_⟩, rfl, rfl, rfl, rfl, rfl, rfl, rfl, trivial⟩
              rw [hset_hset, ← hset1]
      rintro _ τ _ ⟨rfl, ⟨q, hq, rfl⟩, hs⟩
      obtain ⟨t1, rfl⟩ := hs.open_
      (repeat (first | refine AC.seq ?_ | refine AC.block ?_ | refine AC.skip ?_))
      refine AC.region ?_
      refine AOps.step rfl rfl ?_
      refine AOp.of_run (ARun.mvV (.inl rfl) rfl) ?_
      refine AOps.step rfl rfl ?_
      refine AOp.of_run (ARun.add rfl rfl rfl) ?_
      refine AOps.step rfl rfl ?_
      refine AOp.of_run (ARun.mvV (.inr rfl) rfl) ?_
      refine AOps.nil ?_
      exact ⟨_, by omega, j + 1, L.set j q, hlt2, rfl, ⟨rfl, rfl, rfl, rfl, rfl, rfl, eI_wrap (by omega) (by omega) (by omega), trivial⟩, fin q hq, rfl⟩
    · have hge : j = succ.length := by simp at hc; omega
      subst hge
      (repeat (first | refine AC.seq ?_ | refine AC.block ?_ | refine AC.skip ?_ | refine AC.exit ?_))
      refine AC.le (Le.freezeMade (d := 7) rfl (Nat.le_refl _) (hset_same _ _ _)) ?_
      rw [hset_hset, hset_id hb]
      (repeat (first | refine AC.seq ?_ | refine AC.block ?_ | refine AC.skip ?_))
      refine AC.region ?_
      refine AOps.step rfl rfl ?_
      refine AOp.of_run (ARun.move rfl) ?_
      refine AOps.step rfl rfl ?_
      refine AOp.of_run (ARun.mvL (.inl rfl) rfl) ?_
      refine AOps.step rfl rfl ?_
      refine AOp.buildSlice rfl ?_
      have hcb : [AVal.ls succ.length (L.map eB)].all cellB = true := rfl
      refine AOps.step rfl rfl (AOp.append rfl ho (RdSl.ls (by rfl)) (by unfold maxLen; omega) (by omega) (fun x5 h5 ho5 => ?_) hcb)
      refine AOps.step rfl rfl ?_
      refine AOp.of_run (ARun.assign rfl) ?_
      refine AOps.nil ?_
      (repeat (first | refine AC.seq ?_ | refine AC.block ?_ | refine AC.skip ?_))
      refine AC.region ?_
      refine AOps.step rfl rfl ?_
      refine AOp.of_run (ARun.mvV (.inl rfl) rfl) ?_
      refine AOps.step rfl rfl ?_
      refine AOp.of_run (ARun.add rfl rfl rfl) ?_
      refine AOps.step rfl rfl ?_
      refine AOp.of_run (ARun.mvV (.inr rfl) rfl) ?_
      refine AOps.nil ?_
      refine ⟨_, by omega, a + 1, D ++ [L], x5, hlt, rfl, ⟨rfl, rfl, rfl, eI_wrap (by omega) (by omega) (by omega), trivial⟩, by simp [hDl], fun i hi => ?_, ?_⟩
      · rcases Nat.lt_or_ge i D.length with c | c
        · rw [List.getElem_append_left c]; exact hD i c
        · have hia : i = D.length := by simp at hi; omega
          subst hia
          rw [List.getElem_concat_length (by rfl)]
          rw [hDl]; exact ⟨hLl, hL⟩
      · have e : (D ++ [L]).map eBs = D.map eBs ++ [.ls succ.length (L.map eB)] := by rw [List.map_append]; simp [eBs, hLl]
        rw [e]; exact ho5
  · have hge : a = succ.length := by simp at hc; omega
    (repeat (first | refine AC.seq ?_ | refine AC.block ?_ | refine AC.skip ?_ | refine AC.exit ?_))
    (repeat (first | refine AC.seq ?_ | refine AC.block ?_ | refine AC.skip ?_))
    refine AC.region ?_
    refine AOps.step rfl rfl ?_
    refine AOp.of_run (ARun.move rfl) ?_
    refine AOps.step rfl rfl ?_
    refine AOp.of_run (ARun.assign rfl) ?_
    refine AOps.nil ?_
    refine AC.ret (ARes.le (Le.freezeOwn (d := 2) ho) (ARes.one rfl (RV.L rfl) ⟨⟨D, ?_, by omega, hD⟩, rfl⟩))
    rw [eBss, hDl]
end Go.Proofs.Ytilanageangegaa

/- Who is above in the tree of immediate dominators is who dominates. No walk here. -/
set_option linter.unusedVariables false
namespace Go.Proofs.Ytilanageangegaa
open Go.Ab

theorem mem_predF {succ : List (List Int)} {o : List Int} {x y : Int} : x ∈ predF succ o y ↔ x ∈ o ∧ y ∈ inside succ x.toNat := by simp [predF, List.mem_filter]
theorem rw_mem {succ : List (List Int)} (h0 : succ ≠ []) {w y : Int} (h : RW succ w y) : y ∈ order succ := by
  have q := order_ord h0
  induction h with
  | start => exact List.mem_of_getElem? q.head
  | go h hy hne ih => exact q.closed _ ih _ hy
theorem mem_rw {succ : List (List Int)} (h0 : succ ≠ []) {y : Int} (h : y ∈ order succ) : RW succ (-1) y := by
  have q := order_ord h0
  obtain ⟨j, hj⟩ := List.getElem?_of_mem h
  induction j using Nat.strongRecOn generalizing y with
  | _ j ih =>
    rcases Nat.eq_zero_or_pos j with e | e
    · subst e
      rw [q.head] at hj
      injection hj with hj
      subst hj; exact .start
    · obtain ⟨i, p, hi, hp, hy⟩ := q.par j y e hj
      refine .go (ih i hi (List.mem_of_getElem? hp) hp) hy ?_
      have := (q.range y h).1; omega
theorem way_mem {S : Int → Int → Prop} {l : List Int} {y : Int} (w : Ab.Way S l y) : y ∈ l := by
  cases w with
  | start => simp
  | go w h => simp
theorem anc_dm {succ : List (List Int)} (h0 : succ ≠ []) {u : Int → Int} (f : Fin (order succ) (predF succ (order succ)) u) {a b : Nat} (ha : (a : Int) ∈ order succ) (hb : (b : Int) ∈ order succ) : Anc u a b ↔ Dm succ a b := by
  have q := order_ord h0
  have g := gr_of h0
  have hw : ∀ y : Int, RW succ a y → (a : Int) ≠ 0 → ∃ l, Ab.Way (fun x y => y ∈ inside succ x.toNat) l y ∧ (a : Int) ∉ l := fun y hy ha0 => by
    induction hy with
    | start => exact ⟨[0], .start, by simpa using ha0⟩
    | @go x y h hy hne ih =>
      obtain ⟨l, hl, hn⟩ := ih
      exact ⟨l ++ [y], .go hl hy, by simp only [List.mem_append, List.mem_singleton, not_or]; exact ⟨hn, Ne.symm hne⟩⟩
  constructor
  · intro h
    refine ⟨⟨mem_rw h0 ha, mem_rw h0 hb⟩, ?_⟩
    by_cases e : a = b
    · exact .inl e
    · refine .inr fun ⟨ha0, hr⟩ => ?_
      obtain ⟨l, hl, hn⟩ := hw _ hr ha0
      exact hn ((f.dom (S := fun x y => y ∈ inside succ x.toNat) (fun x hx y hy => ⟨q.closed x hx y hy, mem_predF.2 ⟨hx, hy⟩⟩) g.mem0 hl).2 a h)
  · rintro ⟨_, hd⟩
    have hpro : Pro u b := by
      by_cases e : (b : Int) = 0
      · exact .inl e
      · exact .inr (f.all b hb e)
    refine f.comp.dom b hb hpro a fun l hl => Decidable.byContradiction fun hn => ?_
    have ha0 : (a : Int) ≠ 0 := by
      rintro e
      have : ∀ (l : List Int) (y : Int), Ab.Way (Ed (order succ) (predF succ (order succ))) l y → (0 : Int) ∈ l := fun l y w => by
        induction w with
        | start => simp
        | go w h ih => simp [ih]
      exact hn (e ▸ this l _ hl)
    have key : ∀ (l : List Int) (y : Int), Ab.Way (Ed (order succ) (predF succ (order succ))) l y → (a : Int) ∉ l → RW succ a y := fun l y w => by
      induction w with
      | start => exact fun _ => .start
      | @go l x y w h ih =>
        intro hn
        simp only [List.mem_append, List.mem_singleton, not_or] at hn
        exact .go (ih hn.1) (mem_predF.1 h.2).2 (Ne.symm hn.2)
    rcases hd with e | e
    · exact hn (e ▸ way_mem hl)
    · exact e ⟨ha0, key l b hl hn⟩
end Go.Proofs.Ytilanageangegaa

/- Walks of package ir (1): Uses, ends. -/
set_option linter.unusedVariables false
namespace Go.Proofs.Ytilanageangegaa
open Go.Ab

def usesL (n : DNode) : List Int := if n.op = 4 ∨ n.op = 6 then [n.a, n.b] else if n.op = 5 then [n.a] else if n.op = 7 then n.args else []
def endsL (e : DTerm) : List Int := if e.op = 3 then [e.a] else if e.op = 2 then [e.a, e.b] else []

set_option maxRecDepth 10000 in
theorem Uses_spec (n : DNode) (h : AHeap) (ha : n.args.length ≤ 1000000000) : Sp Try.prog 76 [.agg (eNode n)] h (fun r h' => r = eIs (usesL n) ∧ h' = h) := by
  refine Sp.of Try.func76 rfl rfl (by show 1 ≤ 23; decide) ?_
  (repeat (first | refine AC.seq ?_ | refine AC.block ?_ | refine AC.skip ?_))
  refine AC.region ?_
  refine AOps.step rfl rfl ?_
  refine AOp.boxL rfl rfl ?_
  refine AOps.step rfl rfl ?_
  refine AOp.of_run (ARun.mvV (.inr rfl) rfl) ?_
  refine AOps.nil ?_
  (repeat (first | refine AC.seq ?_ | refine AC.block ?_ | refine AC.skip ?_))
  refine AC.region ?_
  refine AOps.step rfl rfl ?_
  refine AOp.of_run (ARun.fieldAddrL rfl rfl) ?_
  refine AOps.step rfl rfl ?_
  refine AOp.of_run (ARun.loadL rfl rfl rfl) ?_
  refine AOps.nil ?_
  (repeat (first | refine AC.seq ?_ | refine AC.block ?_ | refine AC.skip ?_))
  refine AC.region ?_
  refine AOps.step rfl rfl ?_
  refine AOp.of_run (ARun.eql rfl rfl rfl) ?_
  refine AOps.step rfl rfl ?_
  refine AOp.of_run (ARun.mvV (.inr rfl) rfl) ?_
  refine AOps.nil ?_
  (repeat (first | refine AC.seq ?_ | refine AC.block ?_ | refine AC.skip ?_)); refine AC.cond rfl (fun hc => ?_) (fun hc => ?_)
  · have h4 : n.op = 4 := by simpa using hc
    (repeat (first | refine AC.seq ?_ | refine AC.block ?_ | refine AC.skip ?_ | refine AC.exit ?_))
    (repeat (first | refine AC.seq ?_ | refine AC.block ?_ | refine AC.skip ?_)); refine AC.cond rfl (fun hc => ?_) (fun hc => ?_)
    · (repeat (first | refine AC.seq ?_ | refine AC.block ?_ | refine AC.skip ?_))
      refine AC.region ?_
      refine AOps.step rfl rfl ?_
      refine AOp.of_run (ARun.fieldAddrL rfl rfl) ?_
      refine AOps.step rfl rfl ?_
      refine AOp.of_run (ARun.loadL rfl rfl rfl) ?_
      refine AOps.step rfl rfl ?_
      refine AOp.of_run (ARun.fieldAddrL rfl rfl) ?_
      refine AOps.step rfl rfl ?_
      refine AOp.of_run (ARun.loadL rfl rfl rfl) ?_
      refine AOps.step rfl rfl ?_
      refine AOp.buildSlice rfl ?_
      refine AOps.step rfl rfl ?_
      refine AOp.of_run (ARun.mvL (.inr rfl) rfl) ?_
      refine AOps.nil ?_
      refine AC.ret (ARes.one rfl (RV.L rfl) ⟨?_, rfl⟩)
      rw [usesL, if_pos (.inl h4)]; rfl
    · simp [h4] at hc
  · have h4 : n.op ≠ 4 := by simpa using hc
    (repeat (first | refine AC.seq ?_ | refine AC.block ?_ | refine AC.skip ?_))
    refine AC.region ?_
    refine AOps.step rfl rfl ?_
    refine AOp.of_run (ARun.eql rfl rfl rfl) ?_
    refine AOps.step rfl rfl ?_
    refine AOp.of_run (ARun.mvV (.inr rfl) rfl) ?_
    refine AOps.nil ?_
    (repeat (first | refine AC.seq ?_ | refine AC.block ?_ | refine AC.skip ?_)); refine AC.cond rfl (fun hc => ?_) (fun hc => ?_)
    · have h6 : n.op = 6 := by simpa using hc
      (repeat (first | refine AC.seq ?_ | refine AC.block ?_ | refine AC.skip ?_))
      refine AC.region ?_
      refine AOps.step rfl rfl ?_
      refine AOp.of_run (ARun.fieldAddrL rfl rfl) ?_
      refine AOps.step rfl rfl ?_
      refine AOp.of_run (ARun.loadL rfl rfl rfl) ?_
      refine AOps.step rfl rfl ?_
      refine AOp.of_run (ARun.fieldAddrL rfl rfl) ?_
      refine AOps.step rfl rfl ?_
      refine AOp.of_run (ARun.loadL rfl rfl rfl) ?_
      refine AOps.step rfl rfl ?_
      refine AOp.buildSlice rfl ?_
      refine AOps.step rfl rfl ?_
      refine AOp.of_run (ARun.mvL (.inr rfl) rfl) ?_
      refine AOps.nil ?_
      refine AC.ret (ARes.one rfl (RV.L rfl) ⟨?_, rfl⟩)
      rw [usesL, if_pos (.inr h6)]; rfl
    · have h6 : n.op ≠ 6 := by simpa using hc
      have h46 : ¬ (n.op = 4 ∨ n.op = 6) := by omega
      (repeat (first | refine AC.seq ?_ | refine AC.block ?_ | refine AC.skip ?_))
      refine AC.region ?_
      refine AOps.step rfl rfl ?_
      refine AOp.of_run (ARun.eql rfl rfl rfl) ?_
      refine AOps.step rfl rfl ?_
      refine AOp.of_run (ARun.mvV (.inr rfl) rfl) ?_
      refine AOps.nil ?_
      (repeat (first | refine AC.seq ?_ | refine AC.block ?_ | refine AC.skip ?_)); refine AC.cond rfl (fun hc => ?_) (fun hc => ?_)
      · have h5 : n.op = 5 := by simpa using hc
        (repeat (first | refine AC.seq ?_ | refine AC.block ?_ | refine AC.skip ?_))
        refine AC.region ?_
        refine AOps.step rfl rfl ?_
        refine AOp.of_run (ARun.fieldAddrL rfl rfl) ?_
        refine AOps.step rfl rfl ?_
        refine AOp.of_run (ARun.loadL rfl rfl rfl) ?_
        refine AOps.step rfl rfl ?_
        refine AOp.buildSlice rfl ?_
        refine AOps.step rfl rfl ?_
        refine AOp.of_run (ARun.mvL (.inr rfl) rfl) ?_
        refine AOps.nil ?_
        refine AC.ret (ARes.one rfl (RV.L rfl) ⟨?_, rfl⟩)
        rw [usesL, if_neg h46, if_pos h5]; rfl
      · have h5 : n.op ≠ 5 := by simpa using hc
        (repeat (first | refine AC.seq ?_ | refine AC.block ?_ | refine AC.skip ?_))
        refine AC.region ?_
        refine AOps.step rfl rfl ?_
        refine AOp.of_run (ARun.eql rfl rfl rfl) ?_
        refine AOps.step rfl rfl ?_
        refine AOp.of_run (ARun.mvV (.inr rfl) rfl) ?_
        refine AOps.nil ?_
        (repeat (first | refine AC.seq ?_ | refine AC.block ?_ | refine AC.skip ?_)); refine AC.cond rfl (fun hc => ?_) (fun hc => ?_)
        · have h7 : n.op = 7 := by simpa using hc
          (repeat (first | refine AC.seq ?_ | refine AC.block ?_ | refine AC.skip ?_))
          refine AC.region ?_
          refine AOps.step rfl rfl ?_
          refine AOp.of_run (ARun.fieldAddrL rfl rfl) ?_
          refine AOps.step rfl rfl ?_
          refine AOp.of_run (ARun.loadL rfl rfl rfl) ?_
          refine AOps.step rfl rfl (AOp.call_ rfl rfl ((CloneI_spec n.args h ha).mono ?_))
          rintro _ _ ⟨rfl, rfl⟩
          refine AOps.step rfl rfl ?_
          refine AOp.of_run (ARun.mvL (.inr rfl) rfl) ?_
          refine AOps.nil ?_
          refine AC.ret (ARes.one rfl (RV.L rfl) ⟨?_, rfl⟩)
          rw [usesL, if_neg h46, if_neg h5, if_pos h7]; rfl
        · have h7 : n.op ≠ 7 := by simpa using hc
          (repeat (first | refine AC.seq ?_ | refine AC.block ?_ | refine AC.skip ?_ | refine AC.exit ?_))
          (repeat (first | refine AC.seq ?_ | refine AC.block ?_ | refine AC.skip ?_))
          refine AC.region ?_
          refine AOps.step rfl rfl ?_
          refine AOp.of_run (ARun.mvV (.inr rfl) rfl) ?_
          refine AOps.nil ?_
          refine AC.ret (ARes.le (Le.freezeOwn (d := 2) (Own.nil h 3 1)) (ARes.one rfl (RV.L rfl) ⟨?_, rfl⟩))
          rw [usesL, if_neg h46, if_neg h5, if_neg h7]; rfl

set_option maxRecDepth 10000 in
theorem ends_spec (e : DTerm) (h : AHeap) : Sp Try.prog 94 [.agg (eTerm e)] h (fun r h' => r = eIs (endsL e) ∧ h' = h) := by
  refine Sp.of Try.func94 rfl rfl (by show 1 ≤ 17; decide) ?_
  (repeat (first | refine AC.seq ?_ | refine AC.block ?_ | refine AC.skip ?_))
  refine AC.region ?_
  refine AOps.step rfl rfl ?_
  refine AOp.boxL rfl rfl ?_
  refine AOps.step rfl rfl ?_
  refine AOp.of_run (ARun.mvV (.inr rfl) rfl) ?_
  refine AOps.nil ?_
  (repeat (first | refine AC.seq ?_ | refine AC.block ?_ | refine AC.skip ?_))
  refine AC.region ?_
  refine AOps.step rfl rfl ?_
  refine AOp.of_run (ARun.fieldAddrL rfl rfl) ?_
  refine AOps.step rfl rfl ?_
  refine AOp.of_run (ARun.loadL rfl rfl rfl) ?_
  refine AOps.nil ?_
  (repeat (first | refine AC.seq ?_ | refine AC.block ?_ | refine AC.skip ?_))
  refine AC.region ?_
  refine AOps.step rfl rfl ?_
  refine AOp.of_run (ARun.eql rfl rfl rfl) ?_
  refine AOps.step rfl rfl ?_
  refine AOp.of_run (ARun.mvV (.inr rfl) rfl) ?_
  refine AOps.nil ?_
  (repeat (first | refine AC.seq ?_ | refine AC.block ?_ | refine AC.skip ?_)); refine AC.cond rfl (fun hc => ?_) (fun hc => ?_)
  · have h3 : e.op = 3 := by simpa using hc
    (repeat (first | refine AC.seq ?_ | refine AC.block ?_ | refine AC.skip ?_))
    refine AC.region ?_
    refine AOps.step rfl rfl ?_
    refine AOp.of_run (ARun.fieldAddrL rfl rfl) ?_
    refine AOps.step rfl rfl ?_
    refine AOp.of_run (ARun.loadL rfl rfl rfl) ?_
    refine AOps.step rfl rfl ?_
    refine AOp.buildSlice rfl ?_
    refine AOps.step rfl rfl ?_
    refine AOp.of_run (ARun.mvL (.inr rfl) rfl) ?_
    refine AOps.nil ?_
    refine AC.ret (ARes.one rfl (RV.L rfl) ⟨?_, rfl⟩)
    rw [endsL, if_pos h3]; rfl
  · have h3 : e.op ≠ 3 := by simpa using hc
    (repeat (first | refine AC.seq ?_ | refine AC.block ?_ | refine AC.skip ?_))
    refine AC.region ?_
    refine AOps.step rfl rfl ?_
    refine AOp.of_run (ARun.eql rfl rfl rfl) ?_
    refine AOps.step rfl rfl ?_
    refine AOp.of_run (ARun.mvV (.inr rfl) rfl) ?_
    refine AOps.nil ?_
    (repeat (first | refine AC.seq ?_ | refine AC.block ?_ | refine AC.skip ?_)); refine AC.cond rfl (fun hc => ?_) (fun hc => ?_)
    · have h2 : e.op = 2 := by simpa using hc
      (repeat (first | refine AC.seq ?_ | refine AC.block ?_ | refine AC.skip ?_))
      refine AC.region ?_
      refine AOps.step rfl rfl ?_
      refine AOp.of_run (ARun.fieldAddrL rfl rfl) ?_
      refine AOps.step rfl rfl ?_
      refine AOp.of_run (ARun.loadL rfl rfl rfl) ?_
      refine AOps.step rfl rfl ?_
      refine AOp.of_run (ARun.fieldAddrL rfl rfl) ?_
      refine AOps.step rfl rfl ?_
      refine AOp.of_run (ARun.loadL rfl rfl rfl) ?_
      refine AOps.step rfl rfl ?_
      refine AOp.buildSlice rfl ?_
      refine AOps.step rfl rfl ?_
      refine AOp.of_run (ARun.mvL (.inr rfl) rfl) ?_
      refine AOps.nil ?_
      refine AC.ret (ARes.one rfl (RV.L rfl) ⟨?_, rfl⟩)
      rw [endsL, if_neg h3, if_pos h2]; rfl
    · have h2 : e.op ≠ 2 := by simpa using hc
      (repeat (first | refine AC.seq ?_ | refine AC.block ?_ | refine AC.skip ?_ | refine AC.exit ?_))
      (repeat (first | refine AC.seq ?_ | refine AC.block ?_ | refine AC.skip ?_))
      refine AC.region ?_
      refine AOps.step rfl rfl ?_
      refine AOp.of_run (ARun.mvV (.inr rfl) rfl) ?_
      refine AOps.nil ?_
      refine AC.ret (ARes.le (Le.freezeOwn (d := 2) (Own.nil h 3 1)) (ARes.one rfl (RV.L rfl) ⟨?_, rfl⟩))
      rw [endsL, if_neg h3, if_neg h2]; rfl
end Go.Proofs.Ytilanageangegaa

/- Walks of the document's answer for layer 16 (1): Uses, Ends, Succ. -/
set_option linter.unusedVariables false
namespace Go.Proofs.Ytilanageangegaa
open Go.Ab

set_option maxRecDepth 10000 in
theorem UsesR_spec (n : DNode) (h : AHeap) (ha : n.args.length ≤ 1000000000) : Sp Try.prog 53 [.agg (eNode n)] h (fun r h' => r = eIs (usesL n) ∧ h' = h) := by
  refine Sp.of Try.func53 rfl rfl (by show 1 ≤ 24; decide) ?_
  (repeat (first | refine AC.seq ?_ | refine AC.block ?_ | refine AC.skip ?_))
  refine AC.region ?_
  refine AOps.step rfl rfl ?_
  refine AOp.boxL rfl rfl ?_
  refine AOps.step rfl rfl ?_
  refine AOp.of_run (ARun.mvV (.inr rfl) rfl) ?_
  refine AOps.nil ?_
  (repeat (first | refine AC.seq ?_ | refine AC.block ?_ | refine AC.skip ?_))
  refine AC.region ?_
  refine AOps.step rfl rfl ?_
  refine AOp.of_run (ARun.fieldAddrL rfl rfl) ?_
  refine AOps.step rfl rfl ?_
  refine AOp.of_run (ARun.loadL rfl rfl rfl) ?_
  refine AOps.nil ?_
  (repeat (first | refine AC.seq ?_ | refine AC.block ?_ | refine AC.skip ?_))
  refine AC.region ?_
  refine AOps.step rfl rfl ?_
  refine AOp.of_run (ARun.eql rfl rfl rfl) ?_
  refine AOps.step rfl rfl ?_
  refine AOp.of_run (ARun.mvV (.inr rfl) rfl) ?_
  refine AOps.nil ?_
  (repeat (first | refine AC.seq ?_ | refine AC.block ?_ | refine AC.skip ?_)); refine AC.cond rfl (fun hc => ?_) (fun hc => ?_)
  · have h4 : n.op = 4 := by simpa using hc
    (repeat (first | refine AC.seq ?_ | refine AC.block ?_ | refine AC.skip ?_ | refine AC.exit ?_))
    (repeat (first | refine AC.seq ?_ | refine AC.block ?_ | refine AC.skip ?_)); refine AC.cond rfl (fun hc => ?_) (fun hc => ?_)
    · (repeat (first | refine AC.seq ?_ | refine AC.block ?_ | refine AC.skip ?_))
      refine AC.region ?_
      refine AOps.step rfl rfl ?_
      refine AOp.of_run (ARun.fieldAddrL rfl rfl) ?_
      refine AOps.step rfl rfl ?_
      refine AOp.of_run (ARun.loadL rfl rfl rfl) ?_
      refine AOps.step rfl rfl ?_
      refine AOp.of_run (ARun.fieldAddrL rfl rfl) ?_
      refine AOps.step rfl rfl ?_
      refine AOp.of_run (ARun.loadL rfl rfl rfl) ?_
      refine AOps.step rfl rfl ?_
      refine AOp.buildSlice rfl ?_
      refine AOps.step rfl rfl ?_
      refine AOp.of_run (ARun.mvL (.inr rfl) rfl) ?_
      refine AOps.nil ?_
      refine AC.ret (ARes.one rfl (RV.L rfl) ⟨?_, rfl⟩)
      rw [usesL, if_pos (.inl h4)]; rfl
    · simp [h4] at hc
  · have h4 : n.op ≠ 4 := by simpa using hc
    (repeat (first | refine AC.seq ?_ | refine AC.block ?_ | refine AC.skip ?_))
    refine AC.region ?_
    refine AOps.step rfl rfl ?_
    refine AOp.of_run (ARun.eql rfl rfl rfl) ?_
    refine AOps.step rfl rfl ?_
    refine AOp.of_run (ARun.mvV (.inr rfl) rfl) ?_
    refine AOps.nil ?_
    (repeat (first | refine AC.seq ?_ | refine AC.block ?_ | refine AC.skip ?_)); refine AC.cond rfl (fun hc => ?_) (fun hc => ?_)
    · have h6 : n.op = 6 := by simpa using hc
      (repeat (first | refine AC.seq ?_ | refine AC.block ?_ | refine AC.skip ?_))
      refine AC.region ?_
      refine AOps.step rfl rfl ?_
      refine AOp.of_run (ARun.fieldAddrL rfl rfl) ?_
      refine AOps.step rfl rfl ?_
      refine AOp.of_run (ARun.loadL rfl rfl rfl) ?_
      refine AOps.step rfl rfl ?_
      refine AOp.of_run (ARun.fieldAddrL rfl rfl) ?_
      refine AOps.step rfl rfl ?_
      refine AOp.of_run (ARun.loadL rfl rfl rfl) ?_
      refine AOps.step rfl rfl ?_
      refine AOp.buildSlice rfl ?_
      refine AOps.step rfl rfl ?_
      refine AOp.of_run (ARun.mvL (.inr rfl) rfl) ?_
      refine AOps.nil ?_
      refine AC.ret (ARes.one rfl (RV.L rfl) ⟨?_, rfl⟩)
      rw [usesL, if_pos (.inr h6)]; rfl
    · have h6 : n.op ≠ 6 := by simpa using hc
      have h46 : ¬ (n.op = 4 ∨ n.op = 6) := by omega
      (repeat (first | refine AC.seq ?_ | refine AC.block ?_ | refine AC.skip ?_))
      refine AC.region ?_
      refine AOps.step rfl rfl ?_
      refine AOp.of_run (ARun.eql rfl rfl rfl) ?_
      refine AOps.step rfl rfl ?_
      refine AOp.of_run (ARun.mvV (.inr rfl) rfl) ?_
      refine AOps.nil ?_
      (repeat (first | refine AC.seq ?_ | refine AC.block ?_ | refine AC.skip ?_)); refine AC.cond rfl (fun hc => ?_) (fun hc => ?_)
      · have h5 : n.op = 5 := by simpa using hc
        (repeat (first | refine AC.seq ?_ | refine AC.block ?_ | refine AC.skip ?_))
        refine AC.region ?_
        refine AOps.step rfl rfl ?_
        refine AOp.of_run (ARun.fieldAddrL rfl rfl) ?_
        refine AOps.step rfl rfl ?_
        refine AOp.of_run (ARun.loadL rfl rfl rfl) ?_
        refine AOps.step rfl rfl ?_
        refine AOp.buildSlice rfl ?_
        refine AOps.step rfl rfl ?_
        refine AOp.of_run (ARun.mvL (.inr rfl) rfl) ?_
        refine AOps.nil ?_
        refine AC.ret (ARes.one rfl (RV.L rfl) ⟨?_, rfl⟩)
        rw [usesL, if_neg h46, if_pos h5]; rfl
      · have h5 : n.op ≠ 5 := by simpa using hc
        (repeat (first | refine AC.seq ?_ | refine AC.block ?_ | refine AC.skip ?_))
        refine AC.region ?_
        refine AOps.step rfl rfl ?_
        refine AOp.of_run (ARun.eql rfl rfl rfl) ?_
        refine AOps.step rfl rfl ?_
        refine AOp.of_run (ARun.mvV (.inr rfl) rfl) ?_
        refine AOps.nil ?_
        (repeat (first | refine AC.seq ?_ | refine AC.block ?_ | refine AC.skip ?_)); refine AC.cond rfl (fun hc => ?_) (fun hc => ?_)
        · have h7 : n.op = 7 := by simpa using hc
          (repeat (first | refine AC.seq ?_ | refine AC.block ?_ | refine AC.skip ?_))
          refine AC.region ?_
          refine AOps.step rfl rfl (AOp.buildOwn rfl (fun x1 h1 ho1 => ?_))
          refine AOps.step rfl rfl ?_
          refine AOp.of_run (ARun.fieldAddrL rfl rfl) ?_
          refine AOps.step rfl rfl ?_
          refine AOp.of_run (ARun.loadL rfl rfl rfl) ?_
          refine AOps.step rfl rfl (AOp.append rfl ho1 (RdSl.ls (by simp)) (by unfold maxLen; omega) (by omega) (fun x2 h2 ho2 => ?_) (all_map_eI _))
          refine AOps.step rfl rfl ?_
          refine AOp.of_run (ARun.assign rfl) ?_
          refine AOps.nil ?_
          refine AC.ret (ARes.le (Le.freezeOwn (d := 2) ho2) (ARes.one rfl (RV.L rfl) ⟨?_, rfl⟩))
          rw [usesL, if_neg h46, if_neg h5, if_pos h7, eIs, Nat.zero_add]; rfl
        · have h7 : n.op ≠ 7 := by simpa using hc
          (repeat (first | refine AC.seq ?_ | refine AC.block ?_ | refine AC.skip ?_ | refine AC.exit ?_))
          (repeat (first | refine AC.seq ?_ | refine AC.block ?_ | refine AC.skip ?_))
          refine AC.region ?_
          refine AOps.step rfl rfl ?_
          refine AOp.of_run (ARun.mvV (.inr rfl) rfl) ?_
          refine AOps.nil ?_
          refine AC.ret (ARes.le (Le.freezeOwn (d := 2) (Own.nil h 3 1)) (ARes.one rfl (RV.L rfl) ⟨?_, rfl⟩))
          rw [usesL, if_neg h46, if_neg h5, if_neg h7]; rfl

set_option maxRecDepth 10000 in
theorem EndsR_spec (e : DTerm) (h : AHeap) : Sp Try.prog 52 [.agg (eTerm e)] h (fun r h' => r = eIs (endsL e) ∧ h' = h) := by
  refine Sp.of Try.func52 rfl rfl (by show 1 ≤ 17; decide) ?_
  (repeat (first | refine AC.seq ?_ | refine AC.block ?_ | refine AC.skip ?_))
  refine AC.region ?_
  refine AOps.step rfl rfl ?_
  refine AOp.boxL rfl rfl ?_
  refine AOps.step rfl rfl ?_
  refine AOp.of_run (ARun.mvV (.inr rfl) rfl) ?_
  refine AOps.nil ?_
  (repeat (first | refine AC.seq ?_ | refine AC.block ?_ | refine AC.skip ?_))
  refine AC.region ?_
  refine AOps.step rfl rfl ?_
  refine AOp.of_run (ARun.fieldAddrL rfl rfl) ?_
  refine AOps.step rfl rfl ?_
  refine AOp.of_run (ARun.loadL rfl rfl rfl) ?_
  refine AOps.nil ?_
  (repeat (first | refine AC.seq ?_ | refine AC.block ?_ | refine AC.skip ?_))
  refine AC.region ?_
  refine AOps.step rfl rfl ?_
  refine AOp.of_run (ARun.eql rfl rfl rfl) ?_
  refine AOps.step rfl rfl ?_
  refine AOp.of_run (ARun.mvV (.inr rfl) rfl) ?_
  refine AOps.nil ?_
  (repeat (first | refine AC.seq ?_ | refine AC.block ?_ | refine AC.skip ?_)); refine AC.cond rfl (fun hc => ?_) (fun hc => ?_)
  · have h2 : e.op = 2 := by simpa using hc
    (repeat (first | refine AC.seq ?_ | refine AC.block ?_ | refine AC.skip ?_))
    refine AC.region ?_
    refine AOps.step rfl rfl ?_
    refine AOp.of_run (ARun.fieldAddrL rfl rfl) ?_
    refine AOps.step rfl rfl ?_
    refine AOp.of_run (ARun.loadL rfl rfl rfl) ?_
    refine AOps.step rfl rfl ?_
    refine AOp.of_run (ARun.fieldAddrL rfl rfl) ?_
    refine AOps.step rfl rfl ?_
    refine AOp.of_run (ARun.loadL rfl rfl rfl) ?_
    refine AOps.step rfl rfl ?_
    refine AOp.buildSlice rfl ?_
    refine AOps.step rfl rfl ?_
    refine AOp.of_run (ARun.mvL (.inr rfl) rfl) ?_
    refine AOps.nil ?_
    refine AC.ret (ARes.one rfl (RV.L rfl) ⟨?_, rfl⟩)
    rw [endsL, if_neg (by omega), if_pos h2]; rfl
  · have h2 : e.op ≠ 2 := by simpa using hc
    (repeat (first | refine AC.seq ?_ | refine AC.block ?_ | refine AC.skip ?_))
    refine AC.region ?_
    refine AOps.step rfl rfl ?_
    refine AOp.of_run (ARun.eql rfl rfl rfl) ?_
    refine AOps.step rfl rfl ?_
    refine AOp.of_run (ARun.mvV (.inr rfl) rfl) ?_
    refine AOps.nil ?_
    (repeat (first | refine AC.seq ?_ | refine AC.block ?_ | refine AC.skip ?_)); refine AC.cond rfl (fun hc => ?_) (fun hc => ?_)
    · have h3 : e.op = 3 := by simpa using hc
      (repeat (first | refine AC.seq ?_ | refine AC.block ?_ | refine AC.skip ?_))
      refine AC.region ?_
      refine AOps.step rfl rfl ?_
      refine AOp.of_run (ARun.fieldAddrL rfl rfl) ?_
      refine AOps.step rfl rfl ?_
      refine AOp.of_run (ARun.loadL rfl rfl rfl) ?_
      refine AOps.step rfl rfl ?_
      refine AOp.buildSlice rfl ?_
      refine AOps.step rfl rfl ?_
      refine AOp.of_run (ARun.mvL (.inr rfl) rfl) ?_
      refine AOps.nil ?_
      refine AC.ret (ARes.one rfl (RV.L rfl) ⟨?_, rfl⟩)
      rw [endsL, if_pos h3]; rfl
    · have h3 : e.op ≠ 3 := by simpa using hc
      (repeat (first | refine AC.seq ?_ | refine AC.block ?_ | refine AC.skip ?_ | refine AC.exit ?_))
      (repeat (first | refine AC.seq ?_ | refine AC.block ?_ | refine AC.skip ?_))
      refine AC.region ?_
      refine AOps.step rfl rfl ?_
      refine AOp.of_run (ARun.mvV (.inr rfl) rfl) ?_
      refine AOps.nil ?_
      refine AC.ret (ARes.le (Le.freezeOwn (d := 2) (Own.nil h 3 1)) (ARes.one rfl (RV.L rfl) ⟨?_, rfl⟩))
      rw [endsL, if_neg h3, if_neg h2]; rfl

/-- Where a part's end leads, in the document's words. -/
def nextR1 (e : DTerm) : List Int := if e.op = 1 ∨ e.op = 2 then [e.to] else []
def nextR2 (e : DTerm) : List Int := if e.op = 2 then [e.els] else []
theorem nextR_eq (e : DTerm) : nextR1 e ++ nextR2 e = next e := by
  unfold nextR1 nextR2 next
  by_cases h1 : e.op = 1
  · simp [h1]
  · by_cases h2 : e.op = 2
    · simp [h2]
    · simp [h1, h2]

set_option maxRecDepth 10000 in
theorem SuccR_spec (f : DIr) (h : AHeap) (hn : f.parts.length ≤ 100000) : Sp Try.prog 41 [.agg (eIr f)] h (fun x h' => x = eIss (succL f) ∧ h' = h) := by
  refine Sp.of Try.func41 rfl rfl (by show 1 ≤ 46; decide) ?_
  (repeat (first | refine AC.seq ?_ | refine AC.block ?_ | refine AC.skip ?_))
  refine AC.region ?_
  refine AOps.step rfl rfl ?_
  refine AOp.boxL rfl rfl ?_
  refine AOps.step rfl rfl ?_
  refine AOp.of_run (ARun.mvV (.inr rfl) rfl) ?_
  refine AOps.nil ?_
  (repeat (first | refine AC.seq ?_ | refine AC.block ?_ | refine AC.skip ?_))
  refine AC.region ?_
  refine AOps.step rfl rfl ?_
  refine AOp.of_run (ARun.mvV (.inr rfl) rfl) ?_
  refine AOps.nil ?_
  (repeat (first | refine AC.seq ?_ | refine AC.block ?_ | refine AC.skip ?_))
  refine AC.region ?_
  refine AOps.step rfl rfl ?_
  refine AOp.of_run (ARun.mvV (.inr rfl) rfl) ?_
  refine AOps.nil ?_
  (repeat (first | refine AC.seq ?_ | refine AC.block ?_ | refine AC.skip ?_ | refine AC.exit ?_))
  refine AC.loop (fun m τ h' => ∃ k x, k ≤ f.parts.length ∧ m = f.parts.length - k ∧ Slots τ [(1, .lp (eIr f) 0), (3, x), (4, eI k)] ∧ Own h 53 1 k ((f.parts.take k).map fun p => eIs (next p.end_)) x h') f.parts.length ?_ ?_
  · exact ⟨0, _, Nat.zero_le _, rfl, ⟨rfl, rfl, rfl, trivial⟩, Own.nil h 53 1⟩
  rintro m τ h' ⟨k, x, hk, rfl, hs, ho⟩
  obtain ⟨t0, rfl⟩ := hs.open_
  (repeat (first | refine AC.seq ?_ | refine AC.block ?_ | refine AC.skip ?_))
  refine AC.region ?_
  refine AOps.step rfl rfl ?_
  refine AOp.of_run (ARun.mvV (.inl rfl) rfl) ?_
  refine AOps.step rfl rfl ?_
  refine AOp.of_run (ARun.fieldAddrL rfl rfl) ?_
  refine AOps.step rfl rfl ?_
  refine AOp.of_run (ARun.loadL rfl rfl rfl) ?_
  refine AOps.step rfl rfl ?_
  refine AOp.of_run (ARun.lenL rfl rfl) ?_
  refine AOps.step rfl rfl ?_
  refine AOp.of_run (ARun.lss rfl rfl rfl) ?_
  refine AOps.nil ?_
  (repeat (first | refine AC.seq ?_ | refine AC.block ?_ | refine AC.skip ?_)); refine AC.cond rfl (fun hc => ?_) (fun hc => ?_)
  · have hlt : k < f.parts.length := by simpa using hc
    generalize hE : f.parts[k].end_ = e
    have hrd : rdc (f.parts.flatMap ePart) ((k : Int).toNat * 10 + 3) 7 = some (eTerm e) := by
      rw [Int.toNat_natCast, rdc_flatMap_at ePart_len hlt (by decide), ← hE]; rfl
    (repeat (first | refine AC.seq ?_ | refine AC.block ?_ | refine AC.skip ?_ | refine AC.exit ?_))
    (repeat (first | refine AC.seq ?_ | refine AC.block ?_ | refine AC.skip ?_))
    refine AC.region ?_
    refine AOps.step rfl rfl ?_
    refine AOp.of_run (ARun.mvV (.inr rfl) rfl) ?_
    refine AOps.nil ?_
    (repeat (first | refine AC.seq ?_ | refine AC.block ?_ | refine AC.skip ?_))
    refine AC.region ?_
    refine AOps.step rfl rfl ?_
    refine AOp.of_run (ARun.fieldAddrL rfl rfl) ?_
    refine AOps.step rfl rfl ?_
    refine AOp.of_run (ARun.loadL rfl rfl rfl) ?_
    refine AOps.step rfl rfl ?_
    refine AOp.of_run (ARun.mvV (.inl rfl) rfl) ?_
    refine AOps.step rfl rfl ?_
    refine AOp.of_run (ARun.indexAddrL rfl rfl rfl (by omega) (by omega)) ?_
    refine AOps.step rfl rfl ?_
    refine AOp.of_run (ARun.fieldAddrL rfl rfl) ?_
    refine AOps.step rfl rfl (AOp.of_run (ARun.loadNL rfl rfl hrd) ?_)
    refine AOps.step rfl rfl (AOp.alloc rfl (fun b hb => ?_))
    refine AOps.step rfl rfl (AOp.store rfl rfl (hset_same _ _ _) rfl ?_)
    refine AOps.nil ?_
    refine AC.le (Le.freezeNew (d := 6) hb rfl) ?_
    refine AC.seq (AC.mono (Q := fun ex τ h2 => ex = .normal ∧ ∃ x5, Slots τ [(1, .lp (eIr f) 0), (3, x), (4, eI k), (5, x5), (6, .lp (eTerm e) 0)] ∧ Own h' 3 1 (nextR1 e).length ((nextR1 e).map eI) x5 h2) ?_ ?_)
    · (repeat (first | refine AC.seq ?_ | refine AC.block ?_ | refine AC.skip ?_ | refine AC.exit ?_))
      refine AC.mono (Q := fun ex τ h2 => ex = .normal ∧ h2 = h' ∧ Slots τ [(1, .lp (eIr f) 0), (3, x), (4, eI k), (5, .v (.slice none 0 0)), (6, .lp (eTerm e) 0), (27, eB (decide (e.op = 1) || decide (e.op = 2)))]) ?_ ?_
      · (repeat (first | refine AC.seq ?_ | refine AC.block ?_ | refine AC.skip ?_))
        refine AC.region ?_
        refine AOps.step rfl rfl ?_
        refine AOp.of_run (ARun.fieldAddrL rfl rfl) ?_
        refine AOps.step rfl rfl ?_
        refine AOp.of_run (ARun.loadL rfl rfl rfl) ?_
        refine AOps.step rfl rfl ?_
        refine AOp.of_run (ARun.eql rfl rfl rfl) ?_
        refine AOps.step rfl rfl ?_
        refine AOp.of_run (ARun.mvV (.inl rfl) rfl) ?_
        cases g1 : decide (e.op = 1)
        · refine AOps.want rfl rfl (by decide) rfl ?_
          refine AOps.step rfl rfl ?_
          refine AOp.of_run (ARun.fieldAddrL rfl rfl) ?_
          refine AOps.want rfl rfl (by decide) rfl ?_
          refine AOps.step rfl rfl ?_
          refine AOp.of_run (ARun.loadL rfl rfl rfl) ?_
          refine AOps.want rfl rfl (by decide) rfl ?_
          refine AOps.step rfl rfl ?_
          refine AOp.of_run (ARun.eql rfl rfl rfl) ?_
          refine AOps.step rfl rfl (AOp.of_run (ARun.pickF rfl rfl) ?_)
          refine AOps.nil ?_
          exact ⟨rfl, rfl, rfl, rfl, rfl, rfl, rfl, rfl, trivial⟩
        · refine AOps.passU rfl rfl (by decide) rfl rfl rfl ?_
          refine AOps.passU rfl rfl (by decide) rfl rfl rfl ?_
          refine AOps.passU rfl rfl (by decide) rfl rfl rfl ?_
          refine AOps.step rfl rfl (AOp.of_run (ARun.pickT rfl rfl) ?_)
          refine AOps.nil ?_
          exact ⟨rfl, rfl, rfl, rfl, rfl, rfl, rfl, rfl, trivial⟩
      rintro _ τ _ ⟨rfl, rfl, hs⟩
      obtain ⟨t1, rfl⟩ := hs.open_
      (repeat (first | refine AC.seq ?_ | refine AC.block ?_ | refine AC.skip ?_)); refine AC.cond rfl (fun hc => ?_) (fun hc => ?_)
      · have h12 : e.op = 1 ∨ e.op = 2 := by simpa using hc
        (repeat (first | refine AC.seq ?_ | refine AC.block ?_ | refine AC.skip ?_))
        refine AC.region ?_
        refine AOps.step rfl rfl ?_
        refine AOp.of_run (ARun.mvV (.inl rfl) rfl) ?_
        refine AOps.step rfl rfl ?_
        refine AOp.of_run (ARun.fieldAddrL rfl rfl) ?_
        refine AOps.step rfl rfl ?_
        refine AOp.of_run (ARun.loadL rfl rfl rfl) ?_
        refine AOps.step rfl rfl ?_
        refine AOp.buildSlice rfl ?_
        refine AOps.step rfl rfl (AOp.append rfl (Own.nil _ 3 1) (RdSl.ls (by rfl)) (by unfold maxLen; omega) (by omega) (fun x2 h2 ho2 => ?_))
        refine AOps.step rfl rfl ?_
        refine AOp.of_run (ARun.assign rfl) ?_
        refine AOps.nil ?_
        refine ⟨rfl, x2, ⟨rfl, rfl, rfl, rfl, rfl, trivial⟩, ?_⟩
        rw [nextR1, if_pos h12]; exact ho2
      · have h12 : ¬ (e.op = 1 ∨ e.op = 2) := by simpa using hc
        (repeat (first | refine AC.seq ?_ | refine AC.block ?_ | refine AC.skip ?_ | refine AC.exit ?_))
        refine ⟨rfl, _, ⟨rfl, rfl, rfl, rfl, rfl, trivial⟩, ?_⟩
        rw [nextR1, if_neg h12]; exact Own.nil _ 3 1
    rintro _ τ h2 ⟨rfl, x5, hs, ho5⟩
    obtain ⟨t1, rfl⟩ := hs.open_
    have hl1 : (nextR1 e).length ≤ 1 := by unfold nextR1; split <;> simp
    refine AC.seq (AC.mono (Q := fun ex τ h2 => ex = .normal ∧ ∃ x6, Slots τ [(1, .lp (eIr f) 0), (3, x), (4, eI k), (5, x6)] ∧ Own h' 3 1 (next e).length ((next e).map eI) x6 h2) ?_ ?_)
    · (repeat (first | refine AC.seq ?_ | refine AC.block ?_ | refine AC.skip ?_))
      refine AC.region ?_
      refine AOps.step rfl rfl ?_
      refine AOp.of_run (ARun.fieldAddrL rfl rfl) ?_
      refine AOps.step rfl rfl ?_
      refine AOp.of_run (ARun.loadL rfl rfl rfl) ?_
      refine AOps.step rfl rfl ?_
      refine AOp.of_run (ARun.eql rfl rfl rfl) ?_
      refine AOps.nil ?_
      (repeat (first | refine AC.seq ?_ | refine AC.block ?_ | refine AC.skip ?_)); refine AC.cond rfl (fun hc => ?_) (fun hc => ?_)
      · have h12 : e.op = 2 := by simpa using hc
        (repeat (first | refine AC.seq ?_ | refine AC.block ?_ | refine AC.skip ?_))
        refine AC.region ?_
        refine AOps.step rfl rfl ?_
        refine AOp.of_run (ARun.move rfl) ?_
        refine AOps.step rfl rfl ?_
        refine AOp.of_run (ARun.fieldAddrL rfl rfl) ?_
        refine AOps.step rfl rfl ?_
        refine AOp.of_run (ARun.loadL rfl rfl rfl) ?_
        refine AOps.step rfl rfl ?_
        refine AOp.buildSlice rfl ?_
        refine AOps.step rfl rfl (AOp.append rfl ho5 (RdSl.ls (by rfl)) (by unfold maxLen; omega) (by omega) (fun x6 h6 ho6 => ?_))
        refine AOps.step rfl rfl ?_
        refine AOp.of_run (ARun.assign rfl) ?_
        refine AOps.nil ?_
        refine ⟨rfl, x6, ⟨rfl, rfl, rfl, rfl, trivial⟩, ?_⟩
        rw [← nextR_eq, nextR2, if_pos h12, List.length_append, List.map_append]; exact ho6
      · have h12 : e.op ≠ 2 := by simpa using hc
        (repeat (first | refine AC.seq ?_ | refine AC.block ?_ | refine AC.skip ?_ | refine AC.exit ?_))
        refine ⟨rfl, x5, ⟨rfl, rfl, rfl, rfl, trivial⟩, ?_⟩
        rw [← nextR_eq, nextR2, if_neg h12, List.append_nil]; exact ho5
    rintro _ τ h2 ⟨rfl, x6, hs, ho6⟩
    obtain ⟨t2, rfl⟩ := hs.open_
    refine AC.le (Le.freezeOwn (d := 5) ho6) ?_
    (repeat (first | refine AC.seq ?_ | refine AC.block ?_ | refine AC.skip ?_))
    refine AC.region ?_
    refine AOps.step rfl rfl ?_
    refine AOp.of_run (ARun.move rfl) ?_
    refine AOps.step rfl rfl ?_
    refine AOp.of_run (ARun.mvL (.inl rfl) rfl) ?_
    refine AOps.step rfl rfl ?_
    refine AOp.buildSlice rfl ?_
    have hcb : [AVal.ls (next e).length ((next e).map eI)].all cellB = true := rfl
    refine AOps.step rfl rfl (AOp.append rfl ho (RdSl.ls (by rfl)) (by unfold maxLen; omega) (by omega) (fun x7 h7 ho7 => ?_) hcb)
    refine AOps.step rfl rfl ?_
    refine AOp.of_run (ARun.assign rfl) ?_
    refine AOps.nil ?_
    (repeat (first | refine AC.seq ?_ | refine AC.block ?_ | refine AC.skip ?_))
    refine AC.region ?_
    refine AOps.step rfl rfl ?_
    refine AOp.of_run (ARun.mvV (.inl rfl) rfl) ?_
    refine AOps.step rfl rfl ?_
    refine AOp.of_run (ARun.add rfl rfl rfl) ?_
    refine AOps.step rfl rfl ?_
    refine AOp.of_run (ARun.mvV (.inr rfl) rfl) ?_
    refine AOps.nil ?_
    refine ⟨_, by omega, k + 1, x7, hlt, rfl, ⟨rfl, rfl, eI_wrap (by omega) (by omega) (by omega), trivial⟩, ?_⟩
    rw [take_succ_map _ hlt, hE]
    exact ho7
  · have hge : k = f.parts.length := by simp at hc; omega
    (repeat (first | refine AC.seq ?_ | refine AC.block ?_ | refine AC.skip ?_ | refine AC.exit ?_))
    (repeat (first | refine AC.seq ?_ | refine AC.block ?_ | refine AC.skip ?_))
    refine AC.region ?_
    refine AOps.step rfl rfl ?_
    refine AOp.of_run (ARun.move rfl) ?_
    refine AOps.step rfl rfl ?_
    refine AOp.of_run (ARun.assign rfl) ?_
    refine AOps.nil ?_
    refine AC.ret (ARes.le (Le.freezeOwn (d := 2) ho) (ARes.one rfl (RV.tmp' rfl) ⟨?_, rfl⟩))
    subst hge
    rw [take_all (Nat.le_refl _)]
    simp [eIss, succL]; rfl
end Go.Proofs.Ytilanageangegaa

/- Walks of the document's answer for layer 16 (2): make1. -/
set_option linter.unusedVariables false
namespace Go.Proofs.Ytilanageangegaa
open Go.Ab

structure DPl where
  made : Bool
  part : Int
  at_ : Int
def ePl (p : DPl) : List AVal := [eB p.made, eI p.part, eI p.at_]
theorem ePlace_len (p : DPl) : (ePl p).length = 3 := rfl
theorem lput_flatMap {α : Type} {f : α → List AVal} {s : Nat} (hf : ∀ x, (f x).length = s) {l : List α} {i : Nat} (hi : i < l.length) (y : α) : lput (l.flatMap f) (i * s) (f y) = (l.set i y).flatMap f := by
  unfold lput
  have h1 := flatMap_drop f s hf l i
  have h2 := flatMap_drop f s hf l (i + 1)
  have h3 : (l.flatMap f).take (i * s) = (l.take i).flatMap f := by
    have e : l.flatMap f = (l.take i).flatMap f ++ (l.drop i).flatMap f := by rw [← List.flatMap_append, List.take_append_drop]
    rw [e, List.take_append_of_le_length, List.take_of_length_le]
    · rw [flatMap_length f s hf, List.length_take, Nat.min_eq_left (by omega)]; exact Nat.le_refl _
    · rw [flatMap_length f s hf, List.length_take, Nat.min_eq_left (by omega)]; exact Nat.le_refl _
  rw [hf, h3, show i * s + s = (i + 1) * s by rw [Nat.succ_mul], h2, List.set_eq_take_append_cons_drop, if_pos hi, List.flatMap_append, List.flatMap_cons, List.append_assoc]

/-- A value is made. -/
def make1L (L : List DPl) (id part at_ : Int) : Option (List DPl) := if id < 0 ∨ (L.length : Int) ≤ id ∨ (L[id.toNat]?.map (·.made)) = some true then none else some (L.set id.toNat ⟨true, part, at_⟩)

set_option maxRecDepth 10000 in
theorem make1_spec (L : List DPl) (n b : Nat) (id part at_ : Int) (h : AHeap) (hL : L.length = n) (hb : h b = some (.cells (L.flatMap ePl) 167 (n * 3))) :
    Sp Try.prog 70 [.v (.slice (some ⟨b, 0, none⟩) n n), eI id, eI part, eI at_] h (fun r h' => r = eB (make1L L id part at_).isSome ∧ h' = hset h b (some (.cells (((make1L L id part at_).getD L).flatMap ePl) 167 (n * 3)))) := by
  refine Sp.of Try.func70 rfl rfl (by show 4 ≤ 30; decide) ?_
  have hno : make1L L id part at_ = none → (eB false = eB (make1L L id part at_).isSome ∧ h = hset h b (some (.cells (((make1L L id part at_).getD L).flatMap ePl) 167 (n * 3)))) := fun e => by
    rw [e]; exact ⟨rfl, (hset_id hb).symm⟩
  (repeat (first | refine AC.seq ?_ | refine AC.block ?_ | refine AC.skip ?_))
  refine AC.region ?_
  refine AOps.step rfl rfl ?_
  refine AOp.of_run (ARun.mvV (.inr rfl) rfl) ?_
  refine AOps.nil ?_
  (repeat (first | refine AC.seq ?_ | refine AC.block ?_ | refine AC.skip ?_ | refine AC.exit ?_))
  refine AC.mono (Q := fun ex τ h2 => ex = .normal ∧ h2 = h ∧ ∃ q : Bool, q = (make1L L id part at_).isNone ∧ Slots τ [(0, .v (.slice (some ⟨b, 0, none⟩) n n)), (1, eI id), (2, eI part), (3, eI at_), (8, eB false), (23, eB q)]) ?_ ?_
  · (repeat (first | refine AC.seq ?_ | refine AC.block ?_ | refine AC.skip ?_))
    refine AC.region ?_
    refine AOps.step rfl rfl ?_
    refine AOp.of_run (ARun.mvV (.inl rfl) rfl) ?_
    refine AOps.step rfl rfl ?_
    refine AOp.of_run (ARun.lss rfl rfl rfl) ?_
    refine AOps.step rfl rfl ?_
    refine AOp.of_run (ARun.mvV (.inl rfl) rfl) ?_
    cases g1 : decide (id < 0)
    · have h1 : 0 ≤ id := by simpa using g1
      refine AOps.want rfl rfl (by decide) rfl ?_
      refine AOps.step rfl rfl ?_
      refine AOp.of_run (ARun.mvV (.inl rfl) rfl) ?_
      refine AOps.want rfl rfl (by decide) rfl ?_
      refine AOps.step rfl rfl ?_
      refine AOp.of_run (ARun.mvV (.inl rfl) rfl) ?_
      refine AOps.want rfl rfl (by decide) rfl ?_
      refine AOps.step rfl rfl ?_
      refine AOp.of_run (ARun.lenV rfl rfl) ?_
      refine AOps.want rfl rfl (by decide) rfl ?_
      refine AOps.step rfl rfl ?_
      refine AOp.of_run (ARun.geq rfl rfl rfl) ?_
      cases g2 : decide ((n : Int) ≤ id)
      · have h2 : id < n := by simpa using g2
        obtain ⟨k, rfl⟩ : ∃ k : Nat, id = k := ⟨id.toNat, by omega⟩
        have hk : k < L.length := by omega
        have g3 : (L.flatMap ePl)[0 + (k : Int).toNat * 3 + 0]? = some (eB L[k].made) := by
          rw [Int.toNat_natCast, Nat.zero_add]
          exact (get_flatMap ePlace_len hk (by decide)).trans rfl
        refine AOps.step rfl rfl (AOp.of_run (ARun.pickF rfl rfl) ?_)
        refine AOps.step rfl rfl ?_
        refine AOp.of_run (ARun.mvV (.inl rfl) rfl) ?_
        refine AOps.want rfl rfl (by decide) rfl ?_
        refine AOps.step rfl rfl ?_
        refine AOp.of_run (ARun.mvV (.inl rfl) rfl) ?_
        refine AOps.want rfl rfl (by decide) rfl ?_
        refine AOps.step rfl rfl ?_
        refine AOp.of_run (ARun.mvV (.inl rfl) rfl) ?_
        refine AOps.want rfl rfl (by decide) rfl ?_
        refine AOps.step rfl rfl ?_
        refine AOp.of_run (ARun.indexAddr rfl rfl rfl (by omega) (by omega)) ?_
        refine AOps.want rfl rfl (by decide) rfl ?_
        refine AOps.step rfl rfl ?_
        refine AOp.of_run (ARun.fieldAddr rfl rfl) ?_
        refine AOps.want rfl rfl (by decide) rfl ?_
        refine AOps.step rfl rfl (AOp.of_run (ARun.load rfl rfl hb g3) ?_)
        refine AOps.step rfl rfl (AOp.of_run (ARun.pickF rfl rfl) ?_)
        refine AOps.nil ?_
        refine ⟨rfl, rfl, _, ?_, rfl, rfl, rfl, rfl, rfl, rfl, trivial⟩
        unfold make1L
        rw [Int.toNat_natCast, List.getElem?_eq_getElem hk]
        cases hm : L[k].made
        · rw [if_neg (by simp [hm]; omega)]; rfl
        · rw [if_pos (by simp [hm])]; rfl
      · refine AOps.step rfl rfl (AOp.of_run (ARun.pickF rfl rfl) ?_)
        refine AOps.step rfl rfl ?_
        refine AOp.of_run (ARun.mvV (.inl rfl) rfl) ?_
        refine AOps.passU rfl rfl (by decide) rfl rfl rfl ?_
        refine AOps.passU rfl rfl (by decide) rfl rfl rfl ?_
        refine AOps.passU rfl rfl (by decide) rfl rfl rfl ?_
        refine AOps.passU rfl rfl (by decide) rfl rfl rfl ?_
        refine AOps.passU rfl rfl (by decide) rfl rfl rfl ?_
        refine AOps.step rfl rfl (AOp.of_run (ARun.pickT rfl rfl) ?_)
        refine AOps.nil ?_
        refine ⟨rfl, rfl, _, ?_, rfl, rfl, rfl, rfl, rfl, rfl, trivial⟩
        have h2 : (n : Int) ≤ id := by simpa using g2
        rw [make1L, if_pos (.inr (.inl (by omega)))]; rfl
    · refine AOps.passU rfl rfl (by decide) rfl rfl rfl ?_
      refine AOps.passU rfl rfl (by decide) rfl rfl rfl ?_
      refine AOps.passU rfl rfl (by decide) rfl rfl rfl ?_
      refine AOps.passU rfl rfl (by decide) rfl rfl rfl ?_
      refine AOps.step rfl rfl (AOp.of_run (ARun.pickT rfl rfl) ?_)
      refine AOps.step rfl rfl ?_
      refine AOp.of_run (ARun.mvV (.inl rfl) rfl) ?_
      refine AOps.passU rfl rfl (by decide) rfl rfl rfl ?_
      refine AOps.passU rfl rfl (by decide) rfl rfl rfl ?_
      refine AOps.passU rfl rfl (by decide) rfl rfl rfl ?_
      refine AOps.passU rfl rfl (by decide) rfl rfl rfl ?_
      refine AOps.passU rfl rfl (by decide) rfl rfl rfl ?_
      refine AOps.step rfl rfl (AOp.of_run (ARun.pickT rfl rfl) ?_)
      refine AOps.nil ?_
      refine ⟨rfl, rfl, _, ?_, rfl, rfl, rfl, rfl, rfl, rfl, trivial⟩
      have h2 : id < 0 := by simpa using g1
      rw [make1L, if_pos (.inl h2)]; rfl
  rintro _ τ _ ⟨rfl, rfl, q, hq, hs⟩
  obtain ⟨t1, rfl⟩ := hs.open_
  (repeat (first | refine AC.seq ?_ | refine AC.block ?_ | refine AC.skip ?_)); refine AC.cond rfl (fun hc => ?_) (fun hc => ?_)
  · subst hc
    (repeat (first | refine AC.seq ?_ | refine AC.block ?_ | refine AC.skip ?_))
    refine AC.region ?_
    refine AOps.step rfl rfl ?_
    refine AOp.of_run (ARun.mvV (.inr rfl) rfl) ?_
    refine AOps.nil ?_
    refine AC.ret (ARes.one rfl (RV.V rfl) ?_)
    exact hno (by simpa using hq.symm)
  · subst hc
    have hsome : ¬ (id < 0 ∨ (L.length : Int) ≤ id ∨ (L[id.toNat]?.map (·.made)) = some true) := fun e => by
      rw [make1L, if_pos e] at hq; cases hq
    have hid : 0 ≤ id ∧ id < n := by
      constructor
      · exact Int.not_lt.1 fun e => hsome (.inl e)
      · rw [← hL]; exact Int.not_le.1 fun e => hsome (.inr (.inl e))
    have hput := lput_flatMap ePlace_len (l := L) (i := id.toNat) (by omega) ⟨true, part, at_⟩
    have hfl := flatMap_length ePl 3 ePlace_len L
    (repeat (first | refine AC.seq ?_ | refine AC.block ?_ | refine AC.skip ?_ | refine AC.exit ?_))
    (repeat (first | refine AC.seq ?_ | refine AC.block ?_ | refine AC.skip ?_))
    refine AC.region ?_
    refine AOps.step rfl rfl ?_
    refine AOp.of_run (ARun.mvV (.inl rfl) rfl) ?_
    refine AOps.step rfl rfl ?_
    refine AOp.of_run (ARun.mvV (.inl rfl) rfl) ?_
    refine AOps.step rfl rfl ?_
    refine AOp.of_run (ARun.mvV (.inl rfl) rfl) ?_
    refine AOps.step rfl rfl ?_
    refine AOp.of_run (ARun.mvV (.inl rfl) rfl) ?_
    refine AOps.step rfl rfl ?_
    refine AOp.of_run (ARun.build rfl) ?_
    refine AOps.step rfl rfl ?_
    refine AOp.of_run (ARun.indexAddr rfl rfl rfl (by omega) (by omega)) ?_
    refine AOps.step rfl rfl (AOp.store (xs := ePl ⟨true, part, at_⟩) rfl rfl hb rfl ?_ (by rfl) (by rw [hfl]; show 0 + id.toNat * 3 + 3 ≤ _; omega))
    refine AOps.nil ?_
    (repeat (first | refine AC.seq ?_ | refine AC.block ?_ | refine AC.skip ?_))
    refine AC.region ?_
    refine AOps.step rfl rfl ?_
    refine AOp.of_run (ARun.mvV (.inr rfl) rfl) ?_
    refine AOps.nil ?_
    refine AC.ret (ARes.one rfl (RV.V rfl) ?_)
    have hm : make1L L id part at_ = some (L.set id.toNat ⟨true, part, at_⟩) := by rw [make1L, if_neg hsome]
    rw [hm]
    refine ⟨rfl, ?_⟩
    rw [Nat.zero_add, hput]; rfl
end Go.Proofs.Ytilanageangegaa

/- Walks of package ir (2): make. -/
set_option linter.unusedVariables false
namespace Go.Proofs.Ytilanageangegaa
open Go.Ab

structure DPk where
  part : Int
  at_ : Int
def ePk (p : DPk) : List AVal := [eI p.part, eI p.at_]
theorem eRPlace_len (p : DPk) : (ePk p).length = 2 := rfl
/-- The checker's cells. -/
def eChk (f : DIr) (pl up : AVal) : List AVal := eIr f ++ [pl, up]
def makeL (L : List DPk) (id : Int) (p : DPk) : Option (List DPk) := if id < 0 ∨ (L.length : Int) ≤ id ∨ (∃ q, L[id.toNat]? = some q ∧ 0 ≤ q.part) then none else some (L.set id.toNat p)

set_option maxRecDepth 10000 in
theorem make_spec (f : DIr) (up : AVal) (L : List DPk) (n bc b : Nat) (id : Int) (p : DPk) (h : AHeap) (hL : L.length = n) (hb : h b = some (.cells (L.flatMap ePk) 157 (n * 2)))
    (hc0 : h bc = some (.cells (eChk f (.v (.slice (some ⟨b, 0, none⟩) n n)) up) 132 4)) :
    Sp Try.prog 90 [.v (ptr bc), eI id, .agg (ePk p)] h (fun r h' => r = eB (makeL L id p).isSome ∧ h' = hset h b (some (.cells (((makeL L id p).getD L).flatMap ePk) 157 (n * 2)))) := by
  refine Sp.of Try.func90 rfl rfl (by show 3 ≤ 36; decide) ?_
  have hno : makeL L id p = none → (eB false = eB (makeL L id p).isSome ∧ h = hset h b (some (.cells (((makeL L id p).getD L).flatMap ePk) 157 (n * 2)))) := fun e => by
    rw [e]; exact ⟨rfl, (hset_id hb).symm⟩
  (repeat (first | refine AC.seq ?_ | refine AC.block ?_ | refine AC.skip ?_))
  refine AC.region ?_
  refine AOps.step rfl rfl ?_
  refine AOp.boxL rfl rfl ?_
  refine AOps.step rfl rfl ?_
  refine AOp.of_run (ARun.mvV (.inr rfl) rfl) ?_
  refine AOps.nil ?_
  (repeat (first | refine AC.seq ?_ | refine AC.block ?_ | refine AC.skip ?_ | refine AC.exit ?_))
  refine AC.mono (Q := fun ex τ h2 => ex = .normal ∧ h2 = h ∧ ∃ q : Bool, q = (makeL L id p).isNone ∧ Slots τ [(0, .v (ptr bc)), (1, eI id), (5, .lp (ePk p) 0), (6, eB false), (28, eB q)]) ?_ ?_
  · (repeat (first | refine AC.seq ?_ | refine AC.block ?_ | refine AC.skip ?_))
    refine AC.region ?_
    refine AOps.step rfl rfl ?_
    refine AOp.of_run (ARun.mvV (.inl rfl) rfl) ?_
    refine AOps.step rfl rfl ?_
    refine AOp.of_run (ARun.lss rfl rfl rfl) ?_
    refine AOps.step rfl rfl ?_
    refine AOp.of_run (ARun.mvV (.inl rfl) rfl) ?_
    cases g1 : decide (id < 0)
    · have h1 : 0 ≤ id := by simpa using g1
      refine AOps.want rfl rfl (by decide) rfl ?_
      refine AOps.step rfl rfl ?_
      refine AOp.of_run (ARun.mvV (.inl rfl) rfl) ?_
      refine AOps.want rfl rfl (by decide) rfl ?_
      refine AOps.step rfl rfl ?_
      refine AOp.of_run (ARun.mvV (.inl rfl) rfl) ?_
      refine AOps.want rfl rfl (by decide) rfl ?_
      refine AOps.step rfl rfl ?_
      refine AOp.of_run (ARun.nilCheck rfl rfl) ?_
      refine AOps.want rfl rfl (by decide) rfl ?_
      refine AOps.step rfl rfl ?_
      refine AOp.of_run (ARun.fieldAddr rfl rfl) ?_
      refine AOps.want rfl rfl (by decide) rfl ?_
      refine AOps.step rfl rfl (AOp.of_run (ARun.load rfl rfl hc0 rfl) ?_)
      refine AOps.want rfl rfl (by decide) rfl ?_
      refine AOps.step rfl rfl ?_
      refine AOp.of_run (ARun.lenV rfl rfl) ?_
      refine AOps.want rfl rfl (by decide) rfl ?_
      refine AOps.step rfl rfl ?_
      refine AOp.of_run (ARun.geq rfl rfl rfl) ?_
      cases g2 : decide ((n : Int) ≤ id)
      · have h2 : id < n := by simpa using g2
        obtain ⟨k, rfl⟩ : ∃ k : Nat, id = k := ⟨id.toNat, by omega⟩
        have hk : k < L.length := by omega
        have g3 : (L.flatMap ePk)[0 + (k : Int).toNat * 2 + 0]? = some (eI L[k].part) := by
          rw [Int.toNat_natCast, Nat.zero_add]
          exact (get_flatMap eRPlace_len hk (by decide)).trans rfl
        refine AOps.step rfl rfl (AOp.of_run (ARun.pickF rfl rfl) ?_)
        refine AOps.step rfl rfl ?_
        refine AOp.of_run (ARun.mvV (.inl rfl) rfl) ?_
        refine AOps.want rfl rfl (by decide) rfl ?_
        refine AOps.step rfl rfl ?_
        refine AOp.of_run (ARun.mvV (.inl rfl) rfl) ?_
        refine AOps.want rfl rfl (by decide) rfl ?_
        refine AOps.step rfl rfl ?_
        refine AOp.of_run (ARun.nilCheck rfl rfl) ?_
        refine AOps.want rfl rfl (by decide) rfl ?_
        refine AOps.step rfl rfl ?_
        refine AOp.of_run (ARun.fieldAddr rfl rfl) ?_
        refine AOps.want rfl rfl (by decide) rfl ?_
        refine AOps.step rfl rfl (AOp.of_run (ARun.load rfl rfl hc0 rfl) ?_)
        refine AOps.want rfl rfl (by decide) rfl ?_
        refine AOps.step rfl rfl ?_
        refine AOp.of_run (ARun.mvV (.inl rfl) rfl) ?_
        refine AOps.want rfl rfl (by decide) rfl ?_
        refine AOps.step rfl rfl ?_
        refine AOp.of_run (ARun.indexAddr rfl rfl rfl (by omega) (by omega)) ?_
        refine AOps.want rfl rfl (by decide) rfl ?_
        refine AOps.step rfl rfl ?_
        refine AOp.of_run (ARun.fieldAddr rfl rfl) ?_
        refine AOps.want rfl rfl (by decide) rfl ?_
        refine AOps.step rfl rfl (AOp.of_run (ARun.load rfl rfl hb g3) ?_)
        refine AOps.want rfl rfl (by decide) rfl ?_
        refine AOps.step rfl rfl ?_
        refine AOp.of_run (ARun.geq rfl rfl rfl) ?_
        refine AOps.step rfl rfl (AOp.of_run (ARun.pickF rfl rfl) ?_)
        refine AOps.nil ?_
        refine ⟨rfl, rfl, _, ?_, rfl, rfl, rfl, rfl, rfl, trivial⟩
        unfold makeL
        rw [Int.toNat_natCast, List.getElem?_eq_getElem hk]
        by_cases hm : 0 ≤ L[k].part
        · rw [if_pos (.inr (.inr ⟨_, rfl, hm⟩))]; simp [hm]
        · rw [if_neg (by simp [hm]; omega)]; simp [hm]
      · refine AOps.step rfl rfl (AOp.of_run (ARun.pickF rfl rfl) ?_)
        refine AOps.step rfl rfl ?_
        refine AOp.of_run (ARun.mvV (.inl rfl) rfl) ?_
        refine AOps.passU rfl rfl (by decide) rfl rfl rfl ?_
        refine AOps.passU rfl rfl (by decide) rfl rfl rfl ?_
        refine AOps.passU rfl rfl (by decide) rfl rfl rfl ?_
        refine AOps.passU rfl rfl (by decide) rfl rfl rfl ?_
        refine AOps.passU rfl rfl (by decide) rfl rfl rfl ?_
        refine AOps.passU rfl rfl (by decide) rfl rfl rfl ?_
        refine AOps.passU rfl rfl (by decide) rfl rfl rfl ?_
        refine AOps.passU rfl rfl (by decide) rfl rfl rfl ?_
        refine AOps.passU rfl rfl (by decide) rfl rfl rfl ?_
        refine AOps.step rfl rfl (AOp.of_run (ARun.pickT rfl rfl) ?_)
        refine AOps.nil ?_
        refine ⟨rfl, rfl, _, ?_, rfl, rfl, rfl, rfl, rfl, trivial⟩
        have h2 : (n : Int) ≤ id := by simpa using g2
        rw [makeL, if_pos (.inr (.inl (by omega)))]; rfl
    · refine AOps.passU rfl rfl (by decide) rfl rfl rfl ?_
      refine AOps.passU rfl rfl (by decide) rfl rfl rfl ?_
      refine AOps.passU rfl rfl (by decide) rfl rfl rfl ?_
      refine AOps.passU rfl rfl (by decide) rfl rfl rfl ?_
      refine AOps.passU rfl rfl (by decide) rfl rfl rfl ?_
      refine AOps.passU rfl rfl (by decide) rfl rfl rfl ?_
      refine AOps.passU rfl rfl (by decide) rfl rfl rfl ?_
      refine AOps.step rfl rfl (AOp.of_run (ARun.pickT rfl rfl) ?_)
      refine AOps.step rfl rfl ?_
      refine AOp.of_run (ARun.mvV (.inl rfl) rfl) ?_
      refine AOps.passU rfl rfl (by decide) rfl rfl rfl ?_
      refine AOps.passU rfl rfl (by decide) rfl rfl rfl ?_
      refine AOps.passU rfl rfl (by decide) rfl rfl rfl ?_
      refine AOps.passU rfl rfl (by decide) rfl rfl rfl ?_
      refine AOps.passU rfl rfl (by decide) rfl rfl rfl ?_
      refine AOps.passU rfl rfl (by decide) rfl rfl rfl ?_
      refine AOps.passU rfl rfl (by decide) rfl rfl rfl ?_
      refine AOps.passU rfl rfl (by decide) rfl rfl rfl ?_
      refine AOps.passU rfl rfl (by decide) rfl rfl rfl ?_
      refine AOps.step rfl rfl (AOp.of_run (ARun.pickT rfl rfl) ?_)
      refine AOps.nil ?_
      refine ⟨rfl, rfl, _, ?_, rfl, rfl, rfl, rfl, rfl, trivial⟩
      have h2 : id < 0 := by simpa using g1
      rw [makeL, if_pos (.inl h2)]; rfl
  rintro _ τ _ ⟨rfl, rfl, q, hq, hs⟩
  obtain ⟨t1, rfl⟩ := hs.open_
  (repeat (first | refine AC.seq ?_ | refine AC.block ?_ | refine AC.skip ?_)); refine AC.cond rfl (fun hc => ?_) (fun hc => ?_)
  · subst hc
    (repeat (first | refine AC.seq ?_ | refine AC.block ?_ | refine AC.skip ?_))
    refine AC.region ?_
    refine AOps.step rfl rfl ?_
    refine AOp.of_run (ARun.mvV (.inr rfl) rfl) ?_
    refine AOps.nil ?_
    refine AC.ret (ARes.one rfl (RV.V rfl) ?_)
    exact hno (by simpa using hq.symm)
  · subst hc
    have hsome : ¬ (id < 0 ∨ (L.length : Int) ≤ id ∨ (∃ q, L[id.toNat]? = some q ∧ 0 ≤ q.part)) := fun e => by
      rw [makeL, if_pos e] at hq; cases hq
    have hid : 0 ≤ id ∧ id < n := by
      constructor
      · exact Int.not_lt.1 fun e => hsome (.inl e)
      · rw [← hL]; exact Int.not_le.1 fun e => hsome (.inr (.inl e))
    have hput := lput_flatMap eRPlace_len (l := L) (i := id.toNat) (by omega) p
    have hfl := flatMap_length ePk 2 eRPlace_len L
    (repeat (first | refine AC.seq ?_ | refine AC.block ?_ | refine AC.skip ?_ | refine AC.exit ?_))
    (repeat (first | refine AC.seq ?_ | refine AC.block ?_ | refine AC.skip ?_))
    refine AC.drawnH [0, 1, 2, 3, 4, 5, 6] [3, 5] [0, 1, 2, 3, 4, 5, 6, 7] mixed (by kernel_rfl) ?_
    refine RunA.pure rfl rfl rfl rfl rfl (fun _ => ARun.mvV (.inl rfl) rfl) ?_
    refine RunA.pure rfl rfl rfl rfl rfl (fun _ => ARun.nilCheck rfl rfl) ?_
    refine RunA.pure rfl rfl rfl rfl rfl (fun _ => ARun.fieldAddr rfl rfl) ?_
    refine RunA.calm rfl rfl rfl rfl rfl (HSub.refl _) (fun _ hsub => ARun.load rfl rfl (hsub _ _ hc0) rfl) ?_
    refine RunA.pure rfl rfl rfl rfl rfl (fun _ => ARun.mvV (.inl rfl) rfl) ?_
    refine RunA.calm rfl rfl rfl rfl rfl (HSub.refl _) (fun _ hsub => ARun.loadNL rfl rfl rfl) ?_
    refine RunA.pure rfl rfl rfl rfl rfl (fun _ => ARun.indexAddr rfl rfl rfl (by omega) (by omega)) ?_
    refine RunA.op rfl rfl rfl rfl ?_
    refine AOp.store (xs := ePk p) rfl rfl hb rfl ?_ (by rfl) (by rw [hfl]; show 0 + id.toNat * 2 + 2 ≤ _; omega)
    refine ⟨lateAbs (by decide +kernel), ?_⟩
    refine RunA.nil ?_
    (repeat (first | refine AC.seq ?_ | refine AC.block ?_ | refine AC.skip ?_))
    refine AC.region ?_
    refine AOps.step rfl rfl ?_
    refine AOp.of_run (ARun.mvV (.inr rfl) rfl) ?_
    refine AOps.nil ?_
    refine AC.ret (ARes.one rfl (RV.V rfl) ?_)
    have hm : makeL L id p = some (L.set id.toNat p) := by rw [makeL, if_neg hsome]
    rw [hm]
    refine ⟨rfl, ?_⟩
    rw [Nat.zero_add, hput]; rfl
end Go.Proofs.Ytilanageangegaa

/- Walks of package ir (3): ahead. -/
set_option linter.unusedVariables false
namespace Go.Proofs.Ytilanageangegaa
open Go.Ab

/-- Is a value made ahead of a place? -/
def okP (L : List DPk) (U : List Int) (p : DPk) (id : Int) : Prop := 0 ≤ id ∧ ∃ x, L[id.toNat]? = some x ∧ 0 ≤ x.part ∧ (if x.part = p.part then x.at_ < p.at_ else Anc (upf U) x.part p.part)

set_option maxRecDepth 10000 in
theorem ahead_spec (f : DIr) (U : List Int) (o : List Int) (L : List DPk) (n bc b : Nat) (p : DPk) (ids : List Int) (h : AHeap) (hids : ids.length ≤ 1000000000) (hL : L.length = n) (hb : h b = some (.cells (L.flatMap ePk) 157 (n * 2)))
    (hc0 : h bc = some (.cells (eChk f (.v (.slice (some ⟨b, 0, none⟩) n n)) (eIs U)) 132 4)) (t : Tree o (upf U)) (hp : p.part ∈ o) (ho : ∀ y ∈ o, 0 ≤ y ∧ y < U.length) :
    Sp Try.prog 93 [.v (ptr bc), .agg (ePk p), eIs ids] h (fun r h' => (∃ q : Bool, r = eB q ∧ (q = true ↔ ∀ id ∈ ids, okP L U p id)) ∧ h' = h) := by
  refine Sp.of Try.func93 rfl rfl (by show 3 ≤ 75; decide) ?_
  (repeat (first | refine AC.seq ?_ | refine AC.block ?_ | refine AC.skip ?_))
  refine AC.region ?_
  refine AOps.step rfl rfl ?_
  refine AOp.boxL rfl rfl ?_
  refine AOps.step rfl rfl ?_
  refine AOp.of_run (ARun.mvV (.inr rfl) rfl) ?_
  refine AOps.nil ?_
  (repeat (first | refine AC.seq ?_ | refine AC.block ?_ | refine AC.skip ?_))
  refine AC.region ?_
  refine AOps.step rfl rfl ?_
  refine AOp.of_run (ARun.mvL (.inl rfl) rfl) ?_
  refine AOps.step rfl rfl ?_
  refine AOp.of_run (ARun.lenL rfl rfl) ?_
  refine AOps.step rfl rfl ?_
  refine AOp.of_run (ARun.mvV (.inl rfl) rfl) ?_
  refine AOps.nil ?_
  (repeat (first | refine AC.seq ?_ | refine AC.block ?_ | refine AC.skip ?_ | refine AC.exit ?_))
  refine AC.loop (fun m τ h' => ∃ k, k ≤ ids.length ∧ m = ids.length - k ∧ Slots τ [(0, .v (ptr bc)), (4, .lp (ePk p) 0), (11, eIs ids), (12, eI ids.length), (13, eI k)] ∧ (∀ i (hi : i < ids.length), i < k → okP L U p ids[i]) ∧ h' = h) ids.length ?_ ?_
  · exact ⟨0, Nat.zero_le _, rfl, ⟨rfl, rfl, rfl, rfl, rfl, trivial⟩, fun i _ hi => by omega, rfl⟩
  rintro m τ h' ⟨k, hk, rfl, hs, hall, rfl⟩
  obtain ⟨t0, rfl⟩ := hs.open_
  (repeat (first | refine AC.seq ?_ | refine AC.block ?_ | refine AC.skip ?_))
  refine AC.region ?_
  refine AOps.step rfl rfl ?_
  refine AOp.of_run (ARun.lss rfl rfl rfl) ?_
  refine AOps.nil ?_
  (repeat (first | refine AC.seq ?_ | refine AC.block ?_ | refine AC.skip ?_)); refine AC.cond rfl (fun hc => ?_) (fun hc => ?_)
  · have hlt : k < ids.length := by simpa using hc
    have hbad : ¬ okP L U p ids[k] → (false = true ↔ ∀ id ∈ ids, okP L U p id) := fun e => ⟨fun q => (by cases q), fun q => absurd (q _ (List.getElem_mem hlt)) e⟩
    have hgood : okP L U p ids[k] → ∀ i (hi : i < ids.length), i < k + 1 → okP L U p ids[i] := fun e i hi hik => by
      rcases Nat.lt_or_ge i k with c | c
      · exact hall i hi c
      · obtain rfl : i = k := by omega
        exact e
    (repeat (first | refine AC.seq ?_ | refine AC.block ?_ | refine AC.skip ?_ | refine AC.exit ?_))
    (repeat (first | refine AC.seq ?_ | refine AC.block ?_ | refine AC.skip ?_))
    refine AC.region ?_
    refine AOps.step rfl rfl ?_
    refine AOp.of_run (ARun.indexAddrL rfl rfl rfl (by omega) (by omega)) ?_
    refine AOps.step rfl rfl ?_
    refine AOp.of_run (ARun.loadL rfl rfl (get_map hlt)) ?_
    refine AOps.step rfl rfl ?_
    refine AOp.of_run (ARun.mvV (.inr rfl) rfl) ?_
    refine AOps.nil ?_
    generalize hid : ids[k] = id at *
    (repeat (first | refine AC.seq ?_ | refine AC.block ?_ | refine AC.skip ?_ | refine AC.exit ?_))
    refine AC.mono (Q := fun ex τ h2 => ex = .normal ∧ h2 = h' ∧ ∃ q : Bool, (q = false ↔ 0 ≤ id ∧ ∃ x, L[id.toNat]? = some x ∧ 0 ≤ x.part) ∧ Slots τ [(0, .v (ptr bc)), (4, .lp (ePk p) 0), (8, eI id), (11, eIs ids), (12, eI ids.length), (13, eI k), (38, eB q)]) ?_ ?_
    · (repeat (first | refine AC.seq ?_ | refine AC.block ?_ | refine AC.skip ?_))
      refine AC.region ?_
      refine AOps.step rfl rfl ?_
      refine AOp.of_run (ARun.mvV (.inl rfl) rfl) ?_
      refine AOps.step rfl rfl ?_
      refine AOp.of_run (ARun.lss rfl rfl rfl) ?_
      refine AOps.step rfl rfl ?_
      refine AOp.of_run (ARun.mvV (.inl rfl) rfl) ?_
      cases g1 : decide (id < 0)
      · have h1 : 0 ≤ id := by simpa using g1
        refine AOps.want rfl rfl (by decide) rfl ?_
        refine AOps.step rfl rfl ?_
        refine AOp.of_run (ARun.mvV (.inl rfl) rfl) ?_
        refine AOps.want rfl rfl (by decide) rfl ?_
        refine AOps.step rfl rfl ?_
        refine AOp.of_run (ARun.mvV (.inl rfl) rfl) ?_
        refine AOps.want rfl rfl (by decide) rfl ?_
        refine AOps.step rfl rfl ?_
        refine AOp.of_run (ARun.nilCheck rfl rfl) ?_
        refine AOps.want rfl rfl (by decide) rfl ?_
        refine AOps.step rfl rfl ?_
        refine AOp.of_run (ARun.fieldAddr rfl rfl) ?_
        refine AOps.want rfl rfl (by decide) rfl ?_
        refine AOps.step rfl rfl (AOp.of_run (ARun.load rfl rfl hc0 rfl) ?_)
        refine AOps.want rfl rfl (by decide) rfl ?_
        refine AOps.step rfl rfl ?_
        refine AOp.of_run (ARun.lenV rfl rfl) ?_
        refine AOps.want rfl rfl (by decide) rfl ?_
        refine AOps.step rfl rfl ?_
        refine AOp.of_run (ARun.geq rfl rfl rfl) ?_
        cases g2 : decide ((n : Int) ≤ id)
        · have h2 : id < n := by simpa using g2
          obtain ⟨j, rfl⟩ : ∃ j : Nat, id = j := ⟨id.toNat, by omega⟩
          have hj : j < L.length := by omega
          have g3 : (L.flatMap ePk)[0 + (j : Int).toNat * 2 + 0]? = some (eI L[j].part) := by
            rw [Int.toNat_natCast, Nat.zero_add]
            exact (get_flatMap eRPlace_len hj (by decide)).trans rfl
          refine AOps.step rfl rfl (AOp.of_run (ARun.pickF rfl rfl) ?_)
          refine AOps.step rfl rfl ?_
          refine AOp.of_run (ARun.mvV (.inl rfl) rfl) ?_
          refine AOps.want rfl rfl (by decide) rfl ?_
          refine AOps.step rfl rfl ?_
          refine AOp.of_run (ARun.mvV (.inl rfl) rfl) ?_
          refine AOps.want rfl rfl (by decide) rfl ?_
          refine AOps.step rfl rfl ?_
          refine AOp.of_run (ARun.nilCheck rfl rfl) ?_
          refine AOps.want rfl rfl (by decide) rfl ?_
          refine AOps.step rfl rfl ?_
          refine AOp.of_run (ARun.fieldAddr rfl rfl) ?_
          refine AOps.want rfl rfl (by decide) rfl ?_
          refine AOps.step rfl rfl (AOp.of_run (ARun.load rfl rfl hc0 rfl) ?_)
          refine AOps.want rfl rfl (by decide) rfl ?_
          refine AOps.step rfl rfl ?_
          refine AOp.of_run (ARun.mvV (.inl rfl) rfl) ?_
          refine AOps.want rfl rfl (by decide) rfl ?_
          refine AOps.step rfl rfl ?_
          refine AOp.of_run (ARun.indexAddr rfl rfl rfl (by omega) (by omega)) ?_
          refine AOps.want rfl rfl (by decide) rfl ?_
          refine AOps.step rfl rfl ?_
          refine AOp.of_run (ARun.fieldAddr rfl rfl) ?_
          refine AOps.want rfl rfl (by decide) rfl ?_
          refine AOps.step rfl rfl (AOp.of_run (ARun.load rfl rfl hb g3) ?_)
          refine AOps.want rfl rfl (by decide) rfl ?_
          refine AOps.step rfl rfl ?_
          refine AOp.of_run (ARun.lss rfl rfl rfl) ?_
          refine AOps.step rfl rfl (AOp.of_run (ARun.pickF rfl rfl) ?_)
          refine AOps.nil ?_
          refine ⟨rfl, rfl, _, ?_, rfl, rfl, rfl, rfl, rfl, rfl, rfl, trivial⟩
          rw [Int.toNat_natCast, List.getElem?_eq_getElem hj]
          simp
        · refine AOps.step rfl rfl (AOp.of_run (ARun.pickF rfl rfl) ?_)
          refine AOps.step rfl rfl ?_
          refine AOp.of_run (ARun.mvV (.inl rfl) rfl) ?_
          refine AOps.passU rfl rfl (by decide) rfl rfl rfl ?_
          refine AOps.passU rfl rfl (by decide) rfl rfl rfl ?_
          refine AOps.passU rfl rfl (by decide) rfl rfl rfl ?_
          refine AOps.passU rfl rfl (by decide) rfl rfl rfl ?_
          refine AOps.passU rfl rfl (by decide) rfl rfl rfl ?_
          refine AOps.passU rfl rfl (by decide) rfl rfl rfl ?_
          refine AOps.passU rfl rfl (by decide) rfl rfl rfl ?_
          refine AOps.passU rfl rfl (by decide) rfl rfl rfl ?_
          refine AOps.passU rfl rfl (by decide) rfl rfl rfl ?_
          refine AOps.step rfl rfl (AOp.of_run (ARun.pickT rfl rfl) ?_)
          refine AOps.nil ?_
          refine ⟨rfl, rfl, _, ?_, rfl, rfl, rfl, rfl, rfl, rfl, rfl, trivial⟩
          have h2 : (n : Int) ≤ id := by simpa using g2
          rw [List.getElem?_eq_none (by omega)]
          simp
      · refine AOps.passU rfl rfl (by decide) rfl rfl rfl ?_
        refine AOps.passU rfl rfl (by decide) rfl rfl rfl ?_
        refine AOps.passU rfl rfl (by decide) rfl rfl rfl ?_
        refine AOps.passU rfl rfl (by decide) rfl rfl rfl ?_
        refine AOps.passU rfl rfl (by decide) rfl rfl rfl ?_
        refine AOps.passU rfl rfl (by decide) rfl rfl rfl ?_
        refine AOps.passU rfl rfl (by decide) rfl rfl rfl ?_
        refine AOps.step rfl rfl (AOp.of_run (ARun.pickT rfl rfl) ?_)
        refine AOps.step rfl rfl ?_
        refine AOp.of_run (ARun.mvV (.inl rfl) rfl) ?_
        refine AOps.passU rfl rfl (by decide) rfl rfl rfl ?_
        refine AOps.passU rfl rfl (by decide) rfl rfl rfl ?_
        refine AOps.passU rfl rfl (by decide) rfl rfl rfl ?_
        refine AOps.passU rfl rfl (by decide) rfl rfl rfl ?_
        refine AOps.passU rfl rfl (by decide) rfl rfl rfl ?_
        refine AOps.passU rfl rfl (by decide) rfl rfl rfl ?_
        refine AOps.passU rfl rfl (by decide) rfl rfl rfl ?_
        refine AOps.passU rfl rfl (by decide) rfl rfl rfl ?_
        refine AOps.passU rfl rfl (by decide) rfl rfl rfl ?_
        refine AOps.step rfl rfl (AOp.of_run (ARun.pickT rfl rfl) ?_)
        refine AOps.nil ?_
        refine ⟨rfl, rfl, _, ?_, rfl, rfl, rfl, rfl, rfl, rfl, rfl, trivial⟩
        have h2 : id < 0 := by simpa using g1
        simp; omega
    rintro _ τ h6 ⟨rfl, rfl, q, hq, hs⟩
    obtain ⟨t1, rfl⟩ := hs.open_
    (repeat (first | refine AC.seq ?_ | refine AC.block ?_ | refine AC.skip ?_)); refine AC.cond rfl (fun hc => ?_) (fun hc => ?_)
    · subst hc
      (repeat (first | refine AC.seq ?_ | refine AC.block ?_ | refine AC.skip ?_))
      refine AC.region ?_
      refine AOps.step rfl rfl ?_
      refine AOp.of_run (ARun.mvV (.inr rfl) rfl) ?_
      refine AOps.nil ?_
      refine AC.ret (ARes.one rfl (RV.V rfl) ⟨⟨false, rfl, hbad ?_⟩, rfl⟩)
      rintro ⟨e1, x, e2, e3, _⟩
      exact absurd (hq.2 ⟨e1, x, e2, e3⟩) (by simp)
    subst hc
    obtain ⟨hid0, x, hx, hx0⟩ := hq.1 rfl
    obtain ⟨j, rfl⟩ : ∃ j : Nat, id = j := ⟨id.toNat, by omega⟩
    rw [Int.toNat_natCast] at hx
    obtain ⟨hj, hxe⟩ := List.getElem?_eq_some_iff.1 hx
    have hok : okP L U p j ↔ (if x.part = p.part then x.at_ < p.at_ else Anc (upf U) x.part p.part) := by
      constructor
      · rintro ⟨_, y, e2, _, e4⟩
        rw [Int.toNat_natCast, hx] at e2
        obtain rfl := Option.some.inj e2
        exact e4
      · intro e; exact ⟨hid0, x, by rw [Int.toNat_natCast]; exact hx, hx0, e⟩
    have hrd : rdc (L.flatMap ePk) (0 + (j : Int).toNat * 2) 2 = some (ePk x) := by
      rw [Int.toNat_natCast, Nat.zero_add, rdc_flatMap eRPlace_len hj, hxe]
    (repeat (first | refine AC.seq ?_ | refine AC.block ?_ | refine AC.skip ?_ | refine AC.exit ?_))
    (repeat (first | refine AC.seq ?_ | refine AC.block ?_ | refine AC.skip ?_))
    refine AC.region ?_
    refine AOps.step rfl rfl ?_
    refine AOp.of_run (ARun.mvV (.inl rfl) rfl) ?_
    refine AOps.step rfl rfl ?_
    refine AOp.of_run (ARun.nilCheck rfl rfl) ?_
    refine AOps.step rfl rfl ?_
    refine AOp.of_run (ARun.fieldAddr rfl rfl) ?_
    refine AOps.step rfl rfl (AOp.of_run (ARun.load rfl rfl hc0 rfl) ?_)
    refine AOps.step rfl rfl ?_
    refine AOp.of_run (ARun.mvV (.inl rfl) rfl) ?_
    refine AOps.step rfl rfl ?_
    refine AOp.of_run (ARun.indexAddr rfl rfl rfl (by omega) (by omega)) ?_
    refine AOps.step rfl rfl (AOp.of_run (ARun.loadN rfl rfl hb hrd) ?_)
    refine AOps.step rfl rfl (AOp.alloc rfl (fun b9 hb9 => ?_))
    refine AOps.step rfl rfl (AOp.store rfl rfl (hset_same _ _ _) rfl ?_)
    refine AOps.nil ?_
    refine AC.le (Le.freezeNew (d := 9) hb9 rfl) ?_
    (repeat (first | refine AC.seq ?_ | refine AC.block ?_ | refine AC.skip ?_))
    refine AC.region ?_
    refine AOps.step rfl rfl ?_
    refine AOp.of_run (ARun.fieldAddrL rfl rfl) ?_
    refine AOps.step rfl rfl ?_
    refine AOp.of_run (ARun.loadL rfl rfl rfl) ?_
    refine AOps.step rfl rfl ?_
    refine AOp.of_run (ARun.mvV (.inr rfl) rfl) ?_
    refine AOps.nil ?_
    (repeat (first | refine AC.seq ?_ | refine AC.block ?_ | refine AC.skip ?_))
    refine AC.region ?_
    refine AOps.step rfl rfl ?_
    refine AOp.of_run (ARun.fieldAddrL rfl rfl) ?_
    refine AOps.step rfl rfl ?_
    refine AOp.of_run (ARun.loadL rfl rfl rfl) ?_
    refine AOps.step rfl rfl ?_
    refine AOp.of_run (ARun.mvV (.inl rfl) rfl) ?_
    refine AOps.step rfl rfl ?_
    refine AOp.of_run (ARun.eql rfl rfl rfl) ?_
    refine AOps.nil ?_
    (repeat (first | refine AC.seq ?_ | refine AC.block ?_ | refine AC.skip ?_)); refine AC.cond rfl (fun hc => ?_) (fun hc => ?_)
    · have hpe : x.part = p.part := by simpa using hc
      rw [if_pos hpe] at hok
      (repeat (first | refine AC.seq ?_ | refine AC.block ?_ | refine AC.skip ?_))
      refine AC.region ?_
      refine AOps.step rfl rfl ?_
      refine AOp.of_run (ARun.fieldAddrL rfl rfl) ?_
      refine AOps.step rfl rfl ?_
      refine AOp.of_run (ARun.loadL rfl rfl rfl) ?_
      refine AOps.step rfl rfl ?_
      refine AOp.of_run (ARun.fieldAddrL rfl rfl) ?_
      refine AOps.step rfl rfl ?_
      refine AOp.of_run (ARun.loadL rfl rfl rfl) ?_
      refine AOps.step rfl rfl ?_
      refine AOp.of_run (ARun.geq rfl rfl rfl) ?_
      refine AOps.nil ?_
      (repeat (first | refine AC.seq ?_ | refine AC.block ?_ | refine AC.skip ?_)); refine AC.cond rfl (fun hc => ?_) (fun hc => ?_)
      · have hge : p.at_ ≤ x.at_ := by simpa using hc
        (repeat (first | refine AC.seq ?_ | refine AC.block ?_ | refine AC.skip ?_))
        refine AC.region ?_
        refine AOps.step rfl rfl ?_
        refine AOp.of_run (ARun.mvV (.inr rfl) rfl) ?_
        refine AOps.nil ?_
        refine AC.ret (ARes.one rfl (RV.V rfl) ⟨⟨false, rfl, hbad fun e => ?_⟩, rfl⟩)
        have := hok.1 e; omega
      · have hlt2 : x.at_ < p.at_ := by simpa using hc
        (repeat (first | refine AC.seq ?_ | refine AC.block ?_ | refine AC.skip ?_ | refine AC.exit ?_))
        (repeat (first | refine AC.seq ?_ | refine AC.block ?_ | refine AC.skip ?_))
        refine AC.region ?_
        refine AOps.step rfl rfl ?_
        refine AOp.of_run (ARun.add rfl rfl rfl) ?_
        refine AOps.step rfl rfl ?_
        refine AOp.of_run (ARun.mvV (.inl rfl) rfl) ?_
        refine AOps.nil ?_
        exact ⟨_, by omega, k + 1, hlt, rfl, ⟨rfl, rfl, rfl, rfl, eI_wrap (by omega) (by omega) (by omega), trivial⟩, hgood (hok.2 hlt2), rfl⟩
    · have hpe : x.part ≠ p.part := by simpa using hc
      rw [if_neg hpe] at hok
      (repeat (first | refine AC.seq ?_ | refine AC.block ?_ | refine AC.skip ?_ | refine AC.exit ?_))
      refine AC.loop (fun m τ h2 => ∃ y : Int, m = (if 0 ≤ y then o.idxOf y + 1 else 0) ∧ Slots τ [(0, .v (ptr bc)), (4, .lp (ePk p) 0), (9, .lp (ePk x) 0), (10, eI y), (11, eIs ids), (12, eI ids.length), (13, eI k)] ∧ (0 ≤ y → y ∈ o) ∧ (Anc (upf U) x.part p.part ↔ 0 ≤ y ∧ Anc (upf U) x.part y) ∧ h2 = h6) (o.idxOf p.part + 1) ?_ ?_
      · have := (ho _ hp).1
        exact ⟨p.part, by rw [if_pos this], ⟨rfl, rfl, rfl, rfl, rfl, rfl, rfl, trivial⟩, fun _ => hp, ⟨fun e => ⟨this, e⟩, fun e => e.2⟩, rfl⟩
      rintro m τ h5 ⟨y, rfl, hs, hyo, hy, rfl⟩
      obtain ⟨t2, rfl⟩ := hs.open_
      (repeat (first | refine AC.seq ?_ | refine AC.block ?_ | refine AC.skip ?_ | refine AC.exit ?_))
      refine AC.mono (Q := fun ex τ h2 => ex = .normal ∧ h2 = h5 ∧ Slots τ [(0, .v (ptr bc)), (4, .lp (ePk p) 0), (9, .lp (ePk x) 0), (10, eI y), (11, eIs ids), (12, eI ids.length), (13, eI k), (64, eB (decide (0 ≤ y) && !decide (y = x.part)))]) ?_ ?_
      · (repeat (first | refine AC.seq ?_ | refine AC.block ?_ | refine AC.skip ?_))
        refine AC.region ?_
        refine AOps.step rfl rfl ?_
        refine AOp.of_run (ARun.mvV (.inl rfl) rfl) ?_
        refine AOps.step rfl rfl ?_
        refine AOp.of_run (ARun.geq rfl rfl rfl) ?_
        refine AOps.step rfl rfl ?_
        refine AOp.of_run (ARun.mvV (.inl rfl) rfl) ?_
        cases g1 : decide (0 ≤ y)
        · refine AOps.passU rfl rfl (by decide) rfl rfl rfl ?_
          refine AOps.passU rfl rfl (by decide) rfl rfl rfl ?_
          refine AOps.passU rfl rfl (by decide) rfl rfl rfl ?_
          refine AOps.passU rfl rfl (by decide) rfl rfl rfl ?_
          refine AOps.step rfl rfl (AOp.of_run (ARun.pickF rfl rfl) ?_)
          refine AOps.nil ?_
          exact ⟨rfl, rfl, rfl, rfl, rfl, rfl, rfl, rfl, rfl, rfl, trivial⟩
        · refine AOps.want rfl rfl (by decide) rfl ?_
          refine AOps.step rfl rfl ?_
          refine AOp.of_run (ARun.mvV (.inl rfl) rfl) ?_
          refine AOps.want rfl rfl (by decide) rfl ?_
          refine AOps.step rfl rfl ?_
          refine AOp.of_run (ARun.fieldAddrL rfl rfl) ?_
          refine AOps.want rfl rfl (by decide) rfl ?_
          refine AOps.step rfl rfl ?_
          refine AOp.of_run (ARun.loadL rfl rfl rfl) ?_
          refine AOps.want rfl rfl (by decide) rfl ?_
          refine AOps.step rfl rfl ?_
          refine AOp.of_run (ARun.neq rfl rfl rfl) ?_
          refine AOps.step rfl rfl (AOp.of_run (ARun.pickT rfl rfl) ?_)
          refine AOps.nil ?_
          exact ⟨rfl, rfl, rfl, rfl, rfl, rfl, rfl, rfl, rfl, rfl, trivial⟩
      rintro _ τ _ ⟨rfl, rfl, hs⟩
      obtain ⟨t3, rfl⟩ := hs.open_
      (repeat (first | refine AC.seq ?_ | refine AC.block ?_ | refine AC.skip ?_)); refine AC.cond rfl (fun hc => ?_) (fun hc => ?_)
      · have hc2 : 0 ≤ y ∧ y ≠ x.part := by simpa using hc
        have hyr := ho y (hyo hc2.1)
        have g4 : (U.map eI)[y.toNat * 1]? = some (eI (upf U y)) := by
          have := upf_get (U := U) hyr.1 hyr.2
          rw [Nat.zero_add] at this; exact this
        (repeat (first | refine AC.seq ?_ | refine AC.block ?_ | refine AC.skip ?_ | refine AC.exit ?_))
        (repeat (first | refine AC.seq ?_ | refine AC.block ?_ | refine AC.skip ?_))
        refine AC.region ?_
        refine AOps.step rfl rfl ?_
        refine AOp.of_run (ARun.mvV (.inl rfl) rfl) ?_
        refine AOps.step rfl rfl ?_
        refine AOp.of_run (ARun.nilCheck rfl rfl) ?_
        refine AOps.step rfl rfl ?_
        refine AOp.of_run (ARun.fieldAddr rfl rfl) ?_
        refine AOps.step rfl rfl (AOp.of_run (ARun.load rfl rfl hc0 rfl) ?_)
        refine AOps.step rfl rfl ?_
        refine AOp.of_run (ARun.mvV (.inl rfl) rfl) ?_
        refine AOps.step rfl rfl ?_
        refine AOp.of_run (ARun.indexAddrL rfl rfl rfl (by omega) (by omega)) ?_
        refine AOps.step rfl rfl (AOp.of_run (ARun.loadL rfl rfl g4) ?_)
        refine AOps.step rfl rfl ?_
        refine AOp.of_run (ARun.mvV (.inr rfl) rfl) ?_
        refine AOps.nil ?_
        refine ⟨_, ?_, upf U y, rfl, ⟨rfl, rfl, rfl, rfl, rfl, rfl, rfl, trivial⟩, fun e => (t.inn y e).2.1, hy.trans ?_, rfl⟩
        · rw [if_pos hc2.1]
          split
          · rename_i e; have := (t.inn y e).2.2; omega
          · omega
        · constructor
          · rintro ⟨_, e⟩; exact e.up (Ne.symm hc2.2)
          · rintro ⟨e1, e2⟩; exact ⟨hc2.1, .step e1 e2⟩
      · have hc2 : ¬ (0 ≤ y ∧ y ≠ x.part) := by simpa using hc
        (repeat (first | refine AC.seq ?_ | refine AC.block ?_ | refine AC.skip ?_ | refine AC.exit ?_))
        (repeat (first | refine AC.seq ?_ | refine AC.block ?_ | refine AC.skip ?_))
        refine AC.region ?_
        refine AOps.step rfl rfl ?_
        refine AOp.of_run (ARun.mvV (.inl rfl) rfl) ?_
        refine AOps.step rfl rfl ?_
        refine AOp.of_run (ARun.lss rfl rfl rfl) ?_
        refine AOps.nil ?_
        (repeat (first | refine AC.seq ?_ | refine AC.block ?_ | refine AC.skip ?_)); refine AC.cond rfl (fun hc => ?_) (fun hc => ?_)
        · have hyn : y < 0 := by simpa using hc
          (repeat (first | refine AC.seq ?_ | refine AC.block ?_ | refine AC.skip ?_))
          refine AC.region ?_
          refine AOps.step rfl rfl ?_
          refine AOp.of_run (ARun.mvV (.inr rfl) rfl) ?_
          refine AOps.nil ?_
          refine AC.ret (ARes.one rfl (RV.V rfl) ⟨⟨false, rfl, hbad fun e => ?_⟩, rfl⟩)
          have := (hy.1 (hok.1 e)).1; omega
        · have hyn : 0 ≤ y := by simpa using hc
          have hyx : y = x.part := Decidable.not_not.1 fun e => hc2 ⟨hyn, e⟩
          (repeat (first | refine AC.seq ?_ | refine AC.block ?_ | refine AC.skip ?_ | refine AC.exit ?_))
          (repeat (first | refine AC.seq ?_ | refine AC.block ?_ | refine AC.skip ?_))
          refine AC.region ?_
          refine AOps.step rfl rfl ?_
          refine AOp.of_run (ARun.add rfl rfl rfl) ?_
          refine AOps.step rfl rfl ?_
          refine AOp.of_run (ARun.mvV (.inl rfl) rfl) ?_
          refine AOps.nil ?_
          exact ⟨_, by omega, k + 1, hlt, rfl, ⟨rfl, rfl, rfl, rfl, eI_wrap (by omega) (by omega) (by omega), trivial⟩, hgood (hok.2 (hy.2 ⟨hyn, hyx ▸ .refl⟩)), rfl⟩
  · have hge : k = ids.length := by simp at hc; omega
    (repeat (first | refine AC.seq ?_ | refine AC.block ?_ | refine AC.skip ?_ | refine AC.exit ?_))
    (repeat (first | refine AC.seq ?_ | refine AC.block ?_ | refine AC.skip ?_))
    refine AC.region ?_
    refine AOps.step rfl rfl ?_
    refine AOp.of_run (ARun.mvV (.inr rfl) rfl) ?_
    refine AOps.nil ?_
    refine AC.ret (ARes.one rfl (RV.V rfl) ⟨⟨true, rfl, ⟨fun _ id hid => ?_, fun _ => rfl⟩⟩, rfl⟩)
    obtain ⟨i, hi, rfl⟩ := List.getElem_of_mem hid
    exact hall i hi (by omega)
end Go.Proofs.Ytilanageangegaa

/- Walks of the document's answer for layer 16 (3): ahead, all. -/
set_option linter.unusedVariables false
namespace Go.Proofs.Ytilanageangegaa
open Go.Ab

def ePls (L : List DPl) : AVal := .ls L.length (L.flatMap ePl)
def eC (f : DIr) (L : List DPl) (succ : List (List Int)) (D : List (List Bool)) : List AVal := eIr f ++ [ePls L, eIss succ, eBss D]
/-- Is a value made ahead of a place, in the document's words? -/
def okR (L : List DPl) (D : List (List Bool)) (part at_ id : Int) : Prop := 0 ≤ id ∧ ∃ x, L[id.toNat]? = some x ∧ x.made = true ∧ (if x.part = part then x.at_ < at_ else (D.getD x.part.toNat []).getD part.toNat false = true)

set_option maxRecDepth 10000 in
theorem aheadR_spec (f : DIr) (L : List DPl) (succ : List (List Int)) (D : List (List Bool)) (id part at_ : Int) (h : AHeap) (hL : ∀ x ∈ L, x.made = true → 0 ≤ x.part ∧ x.part < D.length) (hp0 : 0 ≤ part) (hD : ∀ r ∈ D, part < r.length) :
    Sp Try.prog 101 [.lp (eC f L succ D) 0, eI id, eI part, eI at_] h (fun r h' => (∃ q : Bool, r = eB q ∧ (q = true ↔ okR L D part at_ id)) ∧ h' = h) := by
  refine Sp.of Try.func101 rfl rfl (by show 4 ≤ 58; decide) ?_
  (repeat (first | refine AC.seq ?_ | refine AC.block ?_ | refine AC.skip ?_))
  refine AC.region ?_
  refine AOps.step rfl rfl ?_
  refine AOp.of_run (ARun.mvV (.inr rfl) rfl) ?_
  refine AOps.nil ?_
  (repeat (first | refine AC.seq ?_ | refine AC.block ?_ | refine AC.skip ?_ | refine AC.exit ?_))
  refine AC.mono (Q := fun ex τ h2 => ex = .normal ∧ h2 = h ∧ ∃ q : Bool, (q = false ↔ 0 ≤ id ∧ ∃ x, L[id.toNat]? = some x ∧ x.made = true) ∧ Slots τ [(0, .lp (eC f L succ D) 0), (1, eI id), (2, eI part), (3, eI at_), (31, eB q)]) ?_ ?_
  · (repeat (first | refine AC.seq ?_ | refine AC.block ?_ | refine AC.skip ?_))
    refine AC.region ?_
    refine AOps.step rfl rfl ?_
    refine AOp.of_run (ARun.mvV (.inl rfl) rfl) ?_
    refine AOps.step rfl rfl ?_
    refine AOp.of_run (ARun.lss rfl rfl rfl) ?_
    refine AOps.step rfl rfl ?_
    refine AOp.of_run (ARun.mvV (.inl rfl) rfl) ?_
    cases g1 : decide (id < 0)
    · have h1 : 0 ≤ id := by simpa using g1
      refine AOps.want rfl rfl (by decide) rfl ?_
      refine AOps.step rfl rfl ?_
      refine AOp.of_run (ARun.mvV (.inl rfl) rfl) ?_
      refine AOps.want rfl rfl (by decide) rfl ?_
      refine AOps.step rfl rfl ?_
      refine AOp.of_run (ARun.mvP (.inl rfl) rfl) ?_
      refine AOps.want rfl rfl (by decide) rfl ?_
      refine AOps.step rfl rfl ?_
      refine AOp.of_run (ARun.nilCheckL rfl rfl) ?_
      refine AOps.want rfl rfl (by decide) rfl ?_
      refine AOps.step rfl rfl ?_
      refine AOp.of_run (ARun.fieldAddrL rfl rfl) ?_
      refine AOps.want rfl rfl (by decide) rfl ?_
      refine AOps.step rfl rfl (AOp.of_run (ARun.loadL rfl rfl rfl) ?_)
      refine AOps.want rfl rfl (by decide) rfl ?_
      refine AOps.step rfl rfl ?_
      refine AOp.of_run (ARun.lenL rfl rfl) ?_
      refine AOps.want rfl rfl (by decide) rfl ?_
      refine AOps.step rfl rfl ?_
      refine AOp.of_run (ARun.geq rfl rfl rfl) ?_
      cases g2 : decide ((L.length : Int) ≤ id)
      · have h2 : id < L.length := by simpa using g2
        obtain ⟨j, rfl⟩ : ∃ j : Nat, id = j := ⟨id.toNat, by omega⟩
        have hj : j < L.length := by omega
        have g3 : (L.flatMap ePl)[(j : Int).toNat * 3 + 0]? = some (eB L[j].made) := by
          rw [Int.toNat_natCast]
          exact (get_flatMap ePlace_len hj (by decide)).trans rfl
        refine AOps.step rfl rfl (AOp.of_run (ARun.pickF rfl rfl) ?_)
        refine AOps.step rfl rfl ?_
        refine AOp.of_run (ARun.mvV (.inl rfl) rfl) ?_
        refine AOps.want rfl rfl (by decide) rfl ?_
        refine AOps.step rfl rfl ?_
        refine AOp.of_run (ARun.mvP (.inl rfl) rfl) ?_
        refine AOps.want rfl rfl (by decide) rfl ?_
        refine AOps.step rfl rfl ?_
        refine AOp.of_run (ARun.nilCheckL rfl rfl) ?_
        refine AOps.want rfl rfl (by decide) rfl ?_
        refine AOps.step rfl rfl ?_
        refine AOp.of_run (ARun.fieldAddrL rfl rfl) ?_
        refine AOps.want rfl rfl (by decide) rfl ?_
        refine AOps.step rfl rfl (AOp.of_run (ARun.loadL rfl rfl rfl) ?_)
        refine AOps.want rfl rfl (by decide) rfl ?_
        refine AOps.step rfl rfl ?_
        refine AOp.of_run (ARun.mvV (.inl rfl) rfl) ?_
        refine AOps.want rfl rfl (by decide) rfl ?_
        refine AOps.step rfl rfl ?_
        refine AOp.of_run (ARun.indexAddrL rfl rfl rfl (by omega) (by omega)) ?_
        refine AOps.want rfl rfl (by decide) rfl ?_
        refine AOps.step rfl rfl ?_
        refine AOp.of_run (ARun.fieldAddrL rfl rfl) ?_
        refine AOps.want rfl rfl (by decide) rfl ?_
        refine AOps.step rfl rfl (AOp.of_run (ARun.loadL rfl rfl g3) ?_)
        refine AOps.want rfl rfl (by decide) rfl ?_
        refine AOps.step rfl rfl ?_
        refine AOp.of_run (ARun.not rfl rfl) ?_
        refine AOps.step rfl rfl (AOp.of_run (ARun.pickF rfl rfl) ?_)
        refine AOps.nil ?_
        refine ⟨rfl, rfl, _, ?_, rfl, rfl, rfl, rfl, rfl, trivial⟩
        rw [Int.toNat_natCast, List.getElem?_eq_getElem hj]
        simp
      · refine AOps.step rfl rfl (AOp.of_run (ARun.pickF rfl rfl) ?_)
        refine AOps.step rfl rfl ?_
        refine AOp.of_run (ARun.mvV (.inl rfl) rfl) ?_
        refine AOps.passU rfl rfl (by decide) rfl rfl rfl ?_
        refine AOps.passU rfl rfl (by decide) rfl rfl rfl ?_
        refine AOps.passU rfl rfl (by decide) rfl rfl rfl ?_
        refine AOps.passU rfl rfl (by decide) rfl rfl rfl ?_
        refine AOps.passU rfl rfl (by decide) rfl rfl rfl ?_
        refine AOps.passU rfl rfl (by decide) rfl rfl rfl ?_
        refine AOps.passU rfl rfl (by decide) rfl rfl rfl ?_
        refine AOps.passU rfl rfl (by decide) rfl rfl rfl ?_
        refine AOps.passU rfl rfl (by decide) rfl rfl rfl ?_
        refine AOps.step rfl rfl (AOp.of_run (ARun.pickT rfl rfl) ?_)
        refine AOps.nil ?_
        refine ⟨rfl, rfl, _, ?_, rfl, rfl, rfl, rfl, rfl, trivial⟩
        have h2 : (L.length : Int) ≤ id := by simpa using g2
        rw [List.getElem?_eq_none (by omega)]
        simp
    · refine AOps.passU rfl rfl (by decide) rfl rfl rfl ?_
      refine AOps.passU rfl rfl (by decide) rfl rfl rfl ?_
      refine AOps.passU rfl rfl (by decide) rfl rfl rfl ?_
      refine AOps.passU rfl rfl (by decide) rfl rfl rfl ?_
      refine AOps.passU rfl rfl (by decide) rfl rfl rfl ?_
      refine AOps.passU rfl rfl (by decide) rfl rfl rfl ?_
      refine AOps.passU rfl rfl (by decide) rfl rfl rfl ?_
      refine AOps.step rfl rfl (AOp.of_run (ARun.pickT rfl rfl) ?_)
      refine AOps.step rfl rfl ?_
      refine AOp.of_run (ARun.mvV (.inl rfl) rfl) ?_
      refine AOps.passU rfl rfl (by decide) rfl rfl rfl ?_
      refine AOps.passU rfl rfl (by decide) rfl rfl rfl ?_
      refine AOps.passU rfl rfl (by decide) rfl rfl rfl ?_
      refine AOps.passU rfl rfl (by decide) rfl rfl rfl ?_
      refine AOps.passU rfl rfl (by decide) rfl rfl rfl ?_
      refine AOps.passU rfl rfl (by decide) rfl rfl rfl ?_
      refine AOps.passU rfl rfl (by decide) rfl rfl rfl ?_
      refine AOps.passU rfl rfl (by decide) rfl rfl rfl ?_
      refine AOps.passU rfl rfl (by decide) rfl rfl rfl ?_
      refine AOps.step rfl rfl (AOp.of_run (ARun.pickT rfl rfl) ?_)
      refine AOps.nil ?_
      refine ⟨rfl, rfl, _, ?_, rfl, rfl, rfl, rfl, rfl, trivial⟩
      have h2 : id < 0 := by simpa using g1
      simp; omega
  rintro _ τ h6 ⟨rfl, rfl, q, hq, hs⟩
  obtain ⟨t1, rfl⟩ := hs.open_
  (repeat (first | refine AC.seq ?_ | refine AC.block ?_ | refine AC.skip ?_)); refine AC.cond rfl (fun hc => ?_) (fun hc => ?_)
  · subst hc
    (repeat (first | refine AC.seq ?_ | refine AC.block ?_ | refine AC.skip ?_))
    refine AC.region ?_
    refine AOps.step rfl rfl ?_
    refine AOp.of_run (ARun.mvV (.inr rfl) rfl) ?_
    refine AOps.nil ?_
    refine AC.ret (ARes.one rfl (RV.V rfl) ⟨⟨false, rfl, fun e => (by cases e), ?_⟩, rfl⟩)
    rintro ⟨e1, x, e2, e3, _⟩
    exact absurd (hq.2 ⟨e1, x, e2, e3⟩) (by simp)
  subst hc
  obtain ⟨hid0, x, hx, hx0⟩ := hq.1 rfl
  obtain ⟨j, rfl⟩ : ∃ j : Nat, id = j := ⟨id.toNat, by omega⟩
  rw [Int.toNat_natCast] at hx
  obtain ⟨hj, hxe⟩ := List.getElem?_eq_some_iff.1 hx
  have hok : okR L D part at_ j ↔ (if x.part = part then x.at_ < at_ else (D.getD x.part.toNat []).getD part.toNat false = true) := by
    constructor
    · rintro ⟨_, y, e2, _, e4⟩
      rw [Int.toNat_natCast, hx] at e2
      obtain rfl := Option.some.inj e2
      exact e4
    · intro e; exact ⟨hid0, x, by rw [Int.toNat_natCast]; exact hx, hx0, e⟩
  have hrd : rdc (L.flatMap ePl) ((j : Int).toNat * 3) 3 = some (ePl x) := by
    rw [Int.toNat_natCast, rdc_flatMap ePlace_len hj, hxe]
  have hxr := hL x (hxe ▸ List.getElem_mem hj) hx0
  (repeat (first | refine AC.seq ?_ | refine AC.block ?_ | refine AC.skip ?_ | refine AC.exit ?_))
  (repeat (first | refine AC.seq ?_ | refine AC.block ?_ | refine AC.skip ?_))
  refine AC.region ?_
  refine AOps.step rfl rfl ?_
  refine AOp.of_run (ARun.mvP (.inl rfl) rfl) ?_
  refine AOps.step rfl rfl ?_
  refine AOp.of_run (ARun.nilCheckL rfl rfl) ?_
  refine AOps.step rfl rfl ?_
  refine AOp.of_run (ARun.fieldAddrL rfl rfl) ?_
  refine AOps.step rfl rfl (AOp.of_run (ARun.loadL rfl rfl rfl) ?_)
  refine AOps.step rfl rfl ?_
  refine AOp.of_run (ARun.mvV (.inl rfl) rfl) ?_
  refine AOps.step rfl rfl ?_
  refine AOp.of_run (ARun.indexAddrL rfl rfl rfl (by omega) (by omega)) ?_
  refine AOps.step rfl rfl (AOp.of_run (ARun.loadNL rfl rfl hrd) ?_)
  refine AOps.step rfl rfl (AOp.alloc rfl (fun b9 hb9 => ?_))
  refine AOps.step rfl rfl (AOp.store rfl rfl (hset_same _ _ _) rfl ?_)
  refine AOps.nil ?_
  refine AC.le (Le.freezeNew (d := 9) hb9 rfl) ?_
  (repeat (first | refine AC.seq ?_ | refine AC.block ?_ | refine AC.skip ?_))
  refine AC.region ?_
  refine AOps.step rfl rfl ?_
  refine AOp.of_run (ARun.fieldAddrL rfl rfl) ?_
  refine AOps.step rfl rfl ?_
  refine AOp.of_run (ARun.loadL rfl rfl rfl) ?_
  refine AOps.step rfl rfl ?_
  refine AOp.of_run (ARun.mvV (.inl rfl) rfl) ?_
  refine AOps.step rfl rfl ?_
  refine AOp.of_run (ARun.eql rfl rfl rfl) ?_
  refine AOps.nil ?_
  (repeat (first | refine AC.seq ?_ | refine AC.block ?_ | refine AC.skip ?_)); refine AC.cond rfl (fun hc => ?_) (fun hc => ?_)
  · have hpe : x.part = part := by simpa using hc
    rw [if_pos hpe] at hok
    (repeat (first | refine AC.seq ?_ | refine AC.block ?_ | refine AC.skip ?_))
    refine AC.region ?_
    refine AOps.step rfl rfl ?_
    refine AOp.of_run (ARun.fieldAddrL rfl rfl) ?_
    refine AOps.step rfl rfl ?_
    refine AOp.of_run (ARun.loadL rfl rfl rfl) ?_
    refine AOps.step rfl rfl ?_
    refine AOp.of_run (ARun.mvV (.inl rfl) rfl) ?_
    refine AOps.step rfl rfl ?_
    refine AOp.of_run (ARun.lss rfl rfl rfl) ?_
    refine AOps.step rfl rfl ?_
    refine AOp.of_run (ARun.mvV (.inr rfl) rfl) ?_
    refine AOps.nil ?_
    refine AC.ret (ARes.one rfl (RV.V rfl) ⟨⟨_, rfl, ?_⟩, rfl⟩)
    rw [hok]; simp
  · have hpe : x.part ≠ part := by simpa using hc
    rw [if_neg hpe] at hok
    have hk : x.part.toNat < D.length := by omega
    have hr := hD _ (List.getElem_mem hk)
    have hk2 : part.toNat < D[x.part.toNat].length := by omega
    have g1 : (D.map eBs)[x.part.toNat * 1]? = some (eBs D[x.part.toNat]) := by
      rw [Nat.mul_one, List.getElem?_map, List.getElem?_eq_getElem hk]; rfl
    have g2 : (D[x.part.toNat].map eB)[part.toNat * 1]? = some (eB D[x.part.toNat][part.toNat]) := by
      rw [Nat.mul_one, List.getElem?_map, List.getElem?_eq_getElem hk2]; rfl
    have e1 : D.getD x.part.toNat [] = D[x.part.toNat] := by rw [List.getD_eq_getElem?_getD, List.getElem?_eq_getElem hk, Option.getD_some]
    rw [e1, List.getD_eq_getElem?_getD, List.getElem?_eq_getElem hk2, Option.getD_some] at hok
    (repeat (first | refine AC.seq ?_ | refine AC.block ?_ | refine AC.skip ?_ | refine AC.exit ?_))
    (repeat (first | refine AC.seq ?_ | refine AC.block ?_ | refine AC.skip ?_))
    refine AC.drawnH [0, 1, 2, 3, 4, 5, 6, 7, 8, 9, 10, 11] [3, 5, 7, 10] [0, 1, 2, 3, 4, 5, 6, 7, 8, 9, 10, 11] mixed (by kernel_rfl) ?_
    refine RunA.pure rfl rfl rfl rfl rfl (fun _ => ARun.mvP (.inl rfl) rfl) ?_
    refine RunA.pure rfl rfl rfl rfl rfl (fun _ => ARun.nilCheckL rfl rfl) ?_
    refine RunA.pure rfl rfl rfl rfl rfl (fun _ => ARun.fieldAddrL rfl rfl) ?_
    refine RunA.calm rfl rfl rfl rfl rfl (HSub.refl _) (fun _ hsub => ARun.loadL rfl rfl rfl) ?_
    refine RunA.pure rfl rfl rfl rfl rfl (fun _ => ARun.fieldAddrL rfl rfl) ?_
    refine RunA.calm rfl rfl rfl rfl rfl (HSub.refl _) (fun _ hsub => ARun.loadL rfl rfl rfl) ?_
    refine RunA.pure rfl rfl rfl rfl rfl (fun _ => ARun.indexAddrL rfl rfl rfl (by omega) (by omega)) ?_
    refine RunA.calm rfl rfl rfl rfl rfl (HSub.refl _) (fun _ hsub => ARun.loadL rfl rfl g1) ?_
    refine RunA.pure rfl rfl rfl rfl rfl (fun _ => ARun.mvV (.inl rfl) rfl) ?_
    refine RunA.pure rfl rfl rfl rfl rfl (fun _ => ARun.indexAddrL rfl rfl rfl (by omega) (by omega)) ?_
    refine RunA.calm rfl rfl rfl rfl rfl (HSub.refl _) (fun _ hsub => ARun.loadL rfl rfl g2) ?_
    refine RunA.pure rfl rfl rfl rfl rfl (fun _ => ARun.mvV (.inr rfl) rfl) ?_
    refine RunA.nil ?_
    refine AC.ret (ARes.one rfl (RV.V rfl) ⟨⟨D[x.part.toNat][part.toNat], rfl, hok.symm⟩, rfl⟩)

set_option maxRecDepth 10000 in
theorem allR_spec (f : DIr) (L : List DPl) (succ : List (List Int)) (D : List (List Bool)) (ids : List Int) (part at_ : Int) (h : AHeap) (hids : ids.length ≤ 1000000000) (hL : ∀ x ∈ L, x.made = true → 0 ≤ x.part ∧ x.part < D.length) (hp0 : 0 ≤ part) (hD : ∀ r ∈ D, part < r.length) :
    Sp Try.prog 73 [.lp (eC f L succ D) 0, eIs ids, eI part, eI at_] h (fun r h' => (∃ q : Bool, r = eB q ∧ (q = true ↔ ∀ id ∈ ids, okR L D part at_ id)) ∧ h' = h) := by
  refine Sp.of Try.func73 rfl rfl (by show 4 ≤ 25; decide) ?_
  (repeat (first | refine AC.seq ?_ | refine AC.block ?_ | refine AC.skip ?_))
  refine AC.region ?_
  refine AOps.step rfl rfl ?_
  refine AOp.of_run (ARun.mvV (.inr rfl) rfl) ?_
  refine AOps.nil ?_
  (repeat (first | refine AC.seq ?_ | refine AC.block ?_ | refine AC.skip ?_))
  refine AC.region ?_
  refine AOps.step rfl rfl ?_
  refine AOp.of_run (ARun.mvV (.inr rfl) rfl) ?_
  refine AOps.nil ?_
  (repeat (first | refine AC.seq ?_ | refine AC.block ?_ | refine AC.skip ?_ | refine AC.exit ?_))
  refine AC.loop (fun m τ h' => ∃ k, k ≤ ids.length ∧ m = ids.length - k ∧ Slots τ [(0, .lp (eC f L succ D) 0), (1, eIs ids), (2, eI part), (3, eI at_), (9, eI k)] ∧ (∀ i (hi : i < ids.length), i < k → okR L D part at_ ids[i]) ∧ h' = h) ids.length ?_ ?_
  · exact ⟨0, Nat.zero_le _, rfl, ⟨rfl, rfl, rfl, rfl, rfl, trivial⟩, fun i _ hi => by omega, rfl⟩
  rintro m τ h' ⟨k, hk, rfl, hs, hall, rfl⟩
  obtain ⟨t0, rfl⟩ := hs.open_
  (repeat (first | refine AC.seq ?_ | refine AC.block ?_ | refine AC.skip ?_))
  refine AC.region ?_
  refine AOps.step rfl rfl ?_
  refine AOp.of_run (ARun.mvV (.inl rfl) rfl) ?_
  refine AOps.step rfl rfl ?_
  refine AOp.of_run (ARun.mvL (.inl rfl) rfl) ?_
  refine AOps.step rfl rfl ?_
  refine AOp.of_run (ARun.lenL rfl rfl) ?_
  refine AOps.step rfl rfl ?_
  refine AOp.of_run (ARun.lss rfl rfl rfl) ?_
  refine AOps.nil ?_
  (repeat (first | refine AC.seq ?_ | refine AC.block ?_ | refine AC.skip ?_)); refine AC.cond rfl (fun hc => ?_) (fun hc => ?_)
  · have hlt : k < ids.length := by simpa using hc
    (repeat (first | refine AC.seq ?_ | refine AC.block ?_ | refine AC.skip ?_ | refine AC.exit ?_))
    (repeat (first | refine AC.seq ?_ | refine AC.block ?_ | refine AC.skip ?_))
    refine AC.region ?_
    refine AOps.step rfl rfl ?_
    refine AOp.of_run (ARun.mvP (.inl rfl) rfl) ?_
    refine AOps.step rfl rfl ?_
    refine AOp.of_run (ARun.mvL (.inl rfl) rfl) ?_
    refine AOps.step rfl rfl ?_
    refine AOp.of_run (ARun.mvV (.inl rfl) rfl) ?_
    refine AOps.step rfl rfl ?_
    refine AOp.of_run (ARun.indexAddrL rfl rfl rfl (by omega) (by omega)) ?_
    refine AOps.step rfl rfl ?_
    refine AOp.of_run (ARun.loadL rfl rfl (get_map hlt)) ?_
    refine AOps.step rfl rfl ?_
    refine AOp.of_run (ARun.mvV (.inl rfl) rfl) ?_
    refine AOps.step rfl rfl ?_
    refine AOp.of_run (ARun.mvV (.inl rfl) rfl) ?_
    refine AOps.step rfl rfl (AOp.call_ rfl rfl ((aheadR_spec f L succ D ids[k] part at_ _ hL hp0 hD).mono ?_))
    rintro _ h2 ⟨⟨q, rfl, hq⟩, rfl⟩
    refine AOps.step rfl rfl ?_
    refine AOp.of_run (ARun.not rfl rfl) ?_
    refine AOps.nil ?_
    (repeat (first | refine AC.seq ?_ | refine AC.block ?_ | refine AC.skip ?_)); refine AC.cond rfl (fun hc => ?_) (fun hc => ?_)
    · have hqf : q = false := by simpa using hc
      (repeat (first | refine AC.seq ?_ | refine AC.block ?_ | refine AC.skip ?_))
      refine AC.region ?_
      refine AOps.step rfl rfl ?_
      refine AOp.of_run (ARun.mvV (.inr rfl) rfl) ?_
      refine AOps.nil ?_
      refine AC.ret (ARes.one rfl (RV.V rfl) ⟨⟨false, rfl, fun e => (by cases e), fun e => ?_⟩, rfl⟩)
      have := hq.2 (e _ (List.getElem_mem hlt))
      rw [hqf] at this; exact this
    · have hqt : q = true := by simpa using hc
      (repeat (first | refine AC.seq ?_ | refine AC.block ?_ | refine AC.skip ?_ | refine AC.exit ?_))
      (repeat (first | refine AC.seq ?_ | refine AC.block ?_ | refine AC.skip ?_))
      refine AC.region ?_
      refine AOps.step rfl rfl ?_
      refine AOp.of_run (ARun.mvV (.inl rfl) rfl) ?_
      refine AOps.step rfl rfl ?_
      refine AOp.of_run (ARun.add rfl rfl rfl) ?_
      refine AOps.step rfl rfl ?_
      refine AOp.of_run (ARun.mvV (.inr rfl) rfl) ?_
      refine AOps.nil ?_
      refine ⟨_, by omega, k + 1, hlt, rfl, ⟨rfl, rfl, rfl, rfl, eI_wrap (by omega) (by omega) (by omega), trivial⟩, fun i hi hik => ?_, rfl⟩
      rcases Nat.lt_or_ge i k with c | c
      · exact hall i hi c
      · obtain rfl : i = k := by omega
        exact hq.1 hqt
  · have hge : k = ids.length := by simp at hc; omega
    (repeat (first | refine AC.seq ?_ | refine AC.block ?_ | refine AC.skip ?_ | refine AC.exit ?_))
    (repeat (first | refine AC.seq ?_ | refine AC.block ?_ | refine AC.skip ?_))
    refine AC.region ?_
    refine AOps.step rfl rfl ?_
    refine AOp.of_run (ARun.mvV (.inr rfl) rfl) ?_
    refine AOps.nil ?_
    refine AC.ret (ARes.one rfl (RV.V rfl) ⟨⟨true, rfl, ⟨fun _ id hid => ?_, fun _ => rfl⟩⟩, rfl⟩)
    obtain ⟨i, hi, rfl⟩ := List.getElem_of_mem hid
    exact hall i hi (by omega)
end Go.Proofs.Ytilanageangegaa

/- Walks of packages word and ref01 (1): Size; compare, order, Cond at nought. -/
set_option linter.unusedVariables false
namespace Go.Proofs.Ytilanageangegaa
open Go.Ab

def sizeB (x : Int) : Bool := ((decide (x = 1) || decide (x = 2)) || decide (x = 4)) || decide (x = 8)
theorem size_and {x : Int} (h1 : 0 < x) (h2 : x ≤ 8) : decide (iand .i64 x (IntKind.i64.wrap (x - 1)) = 0) = sizeB x := by
  have : x = 1 ∨ x = 2 ∨ x = 3 ∨ x = 4 ∨ x = 5 ∨ x = 6 ∨ x = 7 ∨ x = 8 := by omega
  rcases this with rfl | rfl | rfl | rfl | rfl | rfl | rfl | rfl <;> decide

set_option maxRecDepth 10000 in
theorem Size_spec (x : Int) (h : AHeap) : Sp Try.prog 117 [eI x] h (fun r h' => r = eB (sizeB x) ∧ h' = h) := by
  refine Sp.of Try.func117 rfl rfl (by show 1 ≤ 16; decide) ?_
  (repeat (first | refine AC.seq ?_ | refine AC.block ?_ | refine AC.skip ?_))
  refine AC.region ?_
  refine AOps.step rfl rfl ?_
  refine AOp.of_run (ARun.mvV (.inr rfl) rfl) ?_
  refine AOps.nil ?_
  have hno : (x ≤ 0 ∨ 8 < x) → eB false = eB (sizeB x) := fun e => by
    congr 1; unfold sizeB; symm; simp; omega
  (repeat (first | refine AC.seq ?_ | refine AC.block ?_ | refine AC.skip ?_ | refine AC.exit ?_))
  refine AC.mono (Q := fun ex τ h2 => ex = .normal ∧ h2 = h ∧ τ 2 = eB (sizeB x)) ?_ ?_
  · (repeat (first | refine AC.seq ?_ | refine AC.block ?_ | refine AC.skip ?_))
    refine AC.region ?_
    refine AOps.step rfl rfl ?_
    refine AOp.of_run (ARun.mvV (.inl rfl) rfl) ?_
    refine AOps.step rfl rfl ?_
    refine AOp.of_run (ARun.gtr rfl rfl rfl) ?_
    refine AOps.step rfl rfl ?_
    refine AOp.of_run (ARun.mvV (.inl rfl) rfl) ?_
    cases g1 : decide (0 < x)
    · refine AOps.passU rfl rfl (by decide) rfl rfl rfl ?_
      refine AOps.passU rfl rfl (by decide) rfl rfl rfl ?_
      refine AOps.step rfl rfl (AOp.of_run (ARun.pickF rfl rfl) ?_)
      refine AOps.step rfl rfl ?_
      refine AOp.of_run (ARun.mvV (.inl rfl) rfl) ?_
      refine AOps.passU rfl rfl (by decide) rfl rfl rfl ?_
      refine AOps.passU rfl rfl (by decide) rfl rfl rfl ?_
      refine AOps.passU rfl rfl (by decide) rfl rfl rfl ?_
      refine AOps.passU rfl rfl (by decide) rfl rfl rfl ?_
      refine AOps.passU rfl rfl (by decide) rfl rfl rfl ?_
      refine AOps.step rfl rfl (AOp.of_run (ARun.pickF rfl rfl) ?_)
      refine AOps.step rfl rfl ?_
      refine AOp.of_run (ARun.mvV (.inr rfl) rfl) ?_
      refine AOps.nil ?_
      exact ⟨rfl, rfl, hno (.inl (by simpa using g1))⟩
    · refine AOps.want rfl rfl (by decide) rfl ?_
      refine AOps.step rfl rfl ?_
      refine AOp.of_run (ARun.mvV (.inl rfl) rfl) ?_
      refine AOps.want rfl rfl (by decide) rfl ?_
      refine AOps.step rfl rfl ?_
      refine AOp.of_run (ARun.leq rfl rfl rfl) ?_
      refine AOps.step rfl rfl (AOp.of_run (ARun.pickT rfl rfl) ?_)
      refine AOps.step rfl rfl ?_
      refine AOp.of_run (ARun.mvV (.inl rfl) rfl) ?_
      cases g2 : decide (x ≤ 8)
      · refine AOps.passU rfl rfl (by decide) rfl rfl rfl ?_
        refine AOps.passU rfl rfl (by decide) rfl rfl rfl ?_
        refine AOps.passU rfl rfl (by decide) rfl rfl rfl ?_
        refine AOps.passU rfl rfl (by decide) rfl rfl rfl ?_
        refine AOps.passU rfl rfl (by decide) rfl rfl rfl ?_
        refine AOps.step rfl rfl (AOp.of_run (ARun.pickF rfl rfl) ?_)
        refine AOps.step rfl rfl ?_
        refine AOp.of_run (ARun.mvV (.inr rfl) rfl) ?_
        refine AOps.nil ?_
        exact ⟨rfl, rfl, hno (.inr (by simpa using g2))⟩
      · refine AOps.want rfl rfl (by decide) rfl ?_
        refine AOps.step rfl rfl ?_
        refine AOp.of_run (ARun.mvV (.inl rfl) rfl) ?_
        refine AOps.want rfl rfl (by decide) rfl ?_
        refine AOps.step rfl rfl ?_
        refine AOp.of_run (ARun.mvV (.inl rfl) rfl) ?_
        refine AOps.want rfl rfl (by decide) rfl ?_
        refine AOps.step rfl rfl ?_
        refine AOp.of_run (ARun.sub rfl rfl rfl) ?_
        refine AOps.want rfl rfl (by decide) rfl ?_
        refine AOps.step rfl rfl ?_
        refine AOp.of_run (ARun.and rfl rfl rfl) ?_
        refine AOps.want rfl rfl (by decide) rfl ?_
        refine AOps.step rfl rfl ?_
        refine AOp.of_run (ARun.eql rfl rfl rfl) ?_
        refine AOps.step rfl rfl (AOp.of_run (ARun.pickT rfl rfl) ?_)
        refine AOps.step rfl rfl ?_
        refine AOp.of_run (ARun.mvV (.inr rfl) rfl) ?_
        refine AOps.nil ?_
        exact ⟨rfl, rfl, congrArg eB (size_and (by simpa using g1) (by simpa using g2))⟩
  rintro _ τ h6 ⟨rfl, rfl, hs⟩
  refine AC.ret (ARes.one rfl (RV.tmp' hs) ⟨rfl, rfl⟩)

set_option maxRecDepth 10000 in
theorem SizeR_spec (x : Int) (h : AHeap) : Sp Try.prog 99 [eI x] h (fun r h' => r = eB (sizeB x) ∧ h' = h) := by
  refine Sp.of Try.func99 rfl rfl (by show 1 ≤ 17; decide) ?_
  (repeat (first | refine AC.seq ?_ | refine AC.block ?_ | refine AC.skip ?_))
  refine AC.region ?_
  refine AOps.step rfl rfl ?_
  refine AOp.of_run (ARun.mvV (.inr rfl) rfl) ?_
  refine AOps.nil ?_
  (repeat (first | refine AC.seq ?_ | refine AC.block ?_ | refine AC.skip ?_ | refine AC.exit ?_))
  refine AC.mono (Q := fun ex τ h2 => ex = .normal ∧ h2 = h ∧ τ 2 = eB (sizeB x)) ?_ ?_
  · unfold sizeB
    (repeat (first | refine AC.seq ?_ | refine AC.block ?_ | refine AC.skip ?_))
    refine AC.region ?_
    refine AOps.step rfl rfl ?_
    refine AOp.of_run (ARun.mvV (.inl rfl) rfl) ?_
    refine AOps.step rfl rfl ?_
    refine AOp.of_run (ARun.eql rfl rfl rfl) ?_
    refine AOps.step rfl rfl ?_
    refine AOp.of_run (ARun.mvV (.inl rfl) rfl) ?_
    cases g1 : decide (x = 1)
    · refine AOps.want rfl rfl (by decide) rfl ?_
      refine AOps.step rfl rfl ?_
      refine AOp.of_run (ARun.mvV (.inl rfl) rfl) ?_
      refine AOps.want rfl rfl (by decide) rfl ?_
      refine AOps.step rfl rfl ?_
      refine AOp.of_run (ARun.eql rfl rfl rfl) ?_
      refine AOps.step rfl rfl (AOp.of_run (ARun.pickF rfl rfl) ?_)
      refine AOps.step rfl rfl ?_
      refine AOp.of_run (ARun.mvV (.inl rfl) rfl) ?_
      cases g2 : decide (x = 2)
      · refine AOps.want rfl rfl (by decide) rfl ?_
        refine AOps.step rfl rfl ?_
        refine AOp.of_run (ARun.mvV (.inl rfl) rfl) ?_
        refine AOps.want rfl rfl (by decide) rfl ?_
        refine AOps.step rfl rfl ?_
        refine AOp.of_run (ARun.eql rfl rfl rfl) ?_
        refine AOps.step rfl rfl (AOp.of_run (ARun.pickF rfl rfl) ?_)
        refine AOps.step rfl rfl ?_
        refine AOp.of_run (ARun.mvV (.inl rfl) rfl) ?_
        cases g3 : decide (x = 4)
        · refine AOps.want rfl rfl (by decide) rfl ?_
          refine AOps.step rfl rfl ?_
          refine AOp.of_run (ARun.mvV (.inl rfl) rfl) ?_
          refine AOps.want rfl rfl (by decide) rfl ?_
          refine AOps.step rfl rfl ?_
          refine AOp.of_run (ARun.eql rfl rfl rfl) ?_
          refine AOps.step rfl rfl (AOp.of_run (ARun.pickF rfl rfl) ?_)
          refine AOps.step rfl rfl ?_
          refine AOp.of_run (ARun.mvV (.inr rfl) rfl) ?_
          refine AOps.nil ?_
          exact ⟨rfl, rfl, rfl⟩
        · refine AOps.passU rfl rfl (by decide) rfl rfl rfl ?_
          refine AOps.passU rfl rfl (by decide) rfl rfl rfl ?_
          refine AOps.step rfl rfl (AOp.of_run (ARun.pickT rfl rfl) ?_)
          refine AOps.step rfl rfl ?_
          refine AOp.of_run (ARun.mvV (.inr rfl) rfl) ?_
          refine AOps.nil ?_
          exact ⟨rfl, rfl, rfl⟩
      · refine AOps.passU rfl rfl (by decide) rfl rfl rfl ?_
        refine AOps.passU rfl rfl (by decide) rfl rfl rfl ?_
        refine AOps.step rfl rfl (AOp.of_run (ARun.pickT rfl rfl) ?_)
        refine AOps.step rfl rfl ?_
        refine AOp.of_run (ARun.mvV (.inl rfl) rfl) ?_
        refine AOps.passU rfl rfl (by decide) rfl rfl rfl ?_
        refine AOps.passU rfl rfl (by decide) rfl rfl rfl ?_
        refine AOps.step rfl rfl (AOp.of_run (ARun.pickT rfl rfl) ?_)
        refine AOps.step rfl rfl ?_
        refine AOp.of_run (ARun.mvV (.inr rfl) rfl) ?_
        refine AOps.nil ?_
        exact ⟨rfl, rfl, rfl⟩
    · refine AOps.passU rfl rfl (by decide) rfl rfl rfl ?_
      refine AOps.passU rfl rfl (by decide) rfl rfl rfl ?_
      refine AOps.step rfl rfl (AOp.of_run (ARun.pickT rfl rfl) ?_)
      refine AOps.step rfl rfl ?_
      refine AOp.of_run (ARun.mvV (.inl rfl) rfl) ?_
      refine AOps.passU rfl rfl (by decide) rfl rfl rfl ?_
      refine AOps.passU rfl rfl (by decide) rfl rfl rfl ?_
      refine AOps.step rfl rfl (AOp.of_run (ARun.pickT rfl rfl) ?_)
      refine AOps.step rfl rfl ?_
      refine AOp.of_run (ARun.mvV (.inl rfl) rfl) ?_
      refine AOps.passU rfl rfl (by decide) rfl rfl rfl ?_
      refine AOps.passU rfl rfl (by decide) rfl rfl rfl ?_
      refine AOps.step rfl rfl (AOp.of_run (ARun.pickT rfl rfl) ?_)
      refine AOps.step rfl rfl ?_
      refine AOp.of_run (ARun.mvV (.inr rfl) rfl) ?_
      refine AOps.nil ?_
      exact ⟨rfl, rfl, rfl⟩
  rintro _ τ h6 ⟨rfl, rfl, hs⟩
  refine AC.ret (ARes.one rfl (RV.tmp' hs) ⟨rfl, rfl⟩)
end Go.Proofs.Ytilanageangegaa

/- The layer's rules (9): conversions between whole numbers. No statement is proved here. -/
set_option linter.unusedVariables false
namespace Go.Ab
theorem ARun.convI {P : Program} {n : Nat} {o : Oper} {τ : Env} {h : AHeap} {src dst : TypeId} {x : Operand} {k1 k2 k3 : IntKind} {b : Int} [S : Ik P src k3] [D : Ik P dst k2] (ho : o.op = .convert src dst x) (hx : aev τ x = .v (.int k1 b)) : ARun P n o τ h (.v (.int k2 (k2.wrap b))) :=
  ARun.convert ho (by rw [S.under]; rfl) D.under hx
end Go.Ab

/- Walks of packages word and ref01 (2): Cond at nought. MADE BY wip/gen_cond.py. -/
set_option linter.unusedVariables false
namespace Go.Proofs.Ytilanageangegaa
open Go.Ab

def condL : List Int := [16, 80, 64, 32, 96, 48, 112, 160, 192, 176, 208]
def condB (op : Int) : Bool := decide (op ∈ condL)
theorem condB_yes {op : Int} (h : op ∈ condL) : condB op = true := decide_eq_true h
set_option maxRecDepth 10000 in
theorem low_spec (a : Int) (h : AHeap) : Sp Try.prog 115 [eU a, eB true] h (fun r h' => r = eU a ∧ h' = h) := by
  refine Sp.of Try.func115 rfl rfl (by show 2 ≤ 10; decide) ?_
  (repeat (first | refine AC.seq ?_ | refine AC.block ?_ | refine AC.skip ?_))
  refine AC.region ?_
  refine AOps.step rfl rfl ?_
  refine AOp.of_run (ARun.mvV (.inr rfl) rfl) ?_
  refine AOps.nil ?_
  (repeat (first | refine AC.seq ?_ | refine AC.block ?_ | refine AC.skip ?_))
  refine AC.region ?_
  refine AOps.step rfl rfl ?_
  refine AOp.of_run (ARun.mvV (.inl rfl) rfl) ?_
  refine AOps.nil ?_
  (repeat (first | refine AC.seq ?_ | refine AC.block ?_ | refine AC.skip ?_)); refine AC.cond rfl (fun hc => ?_) (fun hc => ?_)
  · (repeat (first | refine AC.seq ?_ | refine AC.block ?_ | refine AC.skip ?_))
    refine AC.region ?_
    refine AOps.step rfl rfl ?_
    refine AOp.of_run (ARun.mvV (.inl rfl) rfl) ?_
    refine AOps.step rfl rfl ?_
    refine AOp.of_run (ARun.mvV (.inr rfl) rfl) ?_
    refine AOps.nil ?_
    refine AC.ret (ARes.one rfl (RV.V rfl) ⟨rfl, rfl⟩)
  · cases hc

set_option maxRecDepth 10000 in
theorem cmp141_spec (h : AHeap) : Sp Try.prog 141 [.v (.int .i64 0), .v (.int .i64 0)] h (fun r h' => r = eI 0 ∧ h' = h) := by
  refine Sp.of Try.func141 rfl rfl (by show 2 ≤ 13; decide) ?_
  (repeat (first | refine AC.seq ?_ | refine AC.block ?_ | refine AC.skip ?_))
  refine AC.region ?_
  refine AOps.step rfl rfl ?_
  refine AOp.of_run (ARun.mvV (.inr rfl) rfl) ?_
  refine AOps.nil ?_
  (repeat (first | refine AC.seq ?_ | refine AC.block ?_ | refine AC.skip ?_))
  refine AC.region ?_
  refine AOps.step rfl rfl ?_
  refine AOp.of_run (ARun.mvV (.inl rfl) rfl) ?_
  refine AOps.step rfl rfl ?_
  refine AOp.of_run (ARun.mvV (.inl rfl) rfl) ?_
  refine AOps.step rfl rfl ?_
  refine AOp.of_run (ARun.lss rfl rfl rfl) ?_
  refine AOps.step rfl rfl ?_
  refine AOp.of_run (ARun.mvV (.inr rfl) rfl) ?_
  refine AOps.nil ?_
  (repeat (first | refine AC.seq ?_ | refine AC.block ?_ | refine AC.skip ?_)); refine AC.cond rfl (fun hc => ?_) (fun hc => ?_)
  · cases hc
  · (repeat (first | refine AC.seq ?_ | refine AC.block ?_ | refine AC.skip ?_))
    refine AC.region ?_
    refine AOps.step rfl rfl ?_
    refine AOp.of_run (ARun.mvV (.inl rfl) rfl) ?_
    refine AOps.step rfl rfl ?_
    refine AOp.of_run (ARun.mvV (.inl rfl) rfl) ?_
    refine AOps.step rfl rfl ?_
    refine AOp.of_run (ARun.gtr rfl rfl rfl) ?_
    refine AOps.step rfl rfl ?_
    refine AOp.of_run (ARun.mvV (.inr rfl) rfl) ?_
    refine AOps.nil ?_
    (repeat (first | refine AC.seq ?_ | refine AC.block ?_ | refine AC.skip ?_)); refine AC.cond rfl (fun hc => ?_) (fun hc => ?_)
    · cases hc
    · (repeat (first | refine AC.seq ?_ | refine AC.block ?_ | refine AC.skip ?_ | refine AC.exit ?_))
      (repeat (first | refine AC.seq ?_ | refine AC.block ?_ | refine AC.skip ?_))
      refine AC.region ?_
      refine AOps.step rfl rfl ?_
      refine AOp.of_run (ARun.mvV (.inr rfl) rfl) ?_
      refine AOps.nil ?_
      refine AC.ret (ARes.one rfl (RV.V rfl) ⟨rfl, rfl⟩)

set_option maxRecDepth 10000 in
theorem cmp142_spec (h : AHeap) : Sp Try.prog 142 [.v (.int .u64 0), .v (.int .u64 0)] h (fun r h' => r = eI 0 ∧ h' = h) := by
  refine Sp.of Try.func142 rfl rfl (by show 2 ≤ 13; decide) ?_
  (repeat (first | refine AC.seq ?_ | refine AC.block ?_ | refine AC.skip ?_))
  refine AC.region ?_
  refine AOps.step rfl rfl ?_
  refine AOp.of_run (ARun.mvV (.inr rfl) rfl) ?_
  refine AOps.nil ?_
  (repeat (first | refine AC.seq ?_ | refine AC.block ?_ | refine AC.skip ?_))
  refine AC.region ?_
  refine AOps.step rfl rfl ?_
  refine AOp.of_run (ARun.mvV (.inl rfl) rfl) ?_
  refine AOps.step rfl rfl ?_
  refine AOp.of_run (ARun.mvV (.inl rfl) rfl) ?_
  refine AOps.step rfl rfl ?_
  refine AOp.of_run (ARun.lss rfl rfl rfl) ?_
  refine AOps.step rfl rfl ?_
  refine AOp.of_run (ARun.mvV (.inr rfl) rfl) ?_
  refine AOps.nil ?_
  (repeat (first | refine AC.seq ?_ | refine AC.block ?_ | refine AC.skip ?_)); refine AC.cond rfl (fun hc => ?_) (fun hc => ?_)
  · cases hc
  · (repeat (first | refine AC.seq ?_ | refine AC.block ?_ | refine AC.skip ?_))
    refine AC.region ?_
    refine AOps.step rfl rfl ?_
    refine AOp.of_run (ARun.mvV (.inl rfl) rfl) ?_
    refine AOps.step rfl rfl ?_
    refine AOp.of_run (ARun.mvV (.inl rfl) rfl) ?_
    refine AOps.step rfl rfl ?_
    refine AOp.of_run (ARun.gtr rfl rfl rfl) ?_
    refine AOps.step rfl rfl ?_
    refine AOp.of_run (ARun.mvV (.inr rfl) rfl) ?_
    refine AOps.nil ?_
    (repeat (first | refine AC.seq ?_ | refine AC.block ?_ | refine AC.skip ?_)); refine AC.cond rfl (fun hc => ?_) (fun hc => ?_)
    · cases hc
    · (repeat (first | refine AC.seq ?_ | refine AC.block ?_ | refine AC.skip ?_ | refine AC.exit ?_))
      (repeat (first | refine AC.seq ?_ | refine AC.block ?_ | refine AC.skip ?_))
      refine AC.region ?_
      refine AOps.step rfl rfl ?_
      refine AOp.of_run (ARun.mvV (.inr rfl) rfl) ?_
      refine AOps.nil ?_
      refine AC.ret (ARes.one rfl (RV.V rfl) ⟨rfl, rfl⟩)

set_option maxRecDepth 10000 in
theorem order0_spec (op : Int) (h : AHeap) : Sp Try.prog 116 [eI op, eU 0, eU 0, eB true] h (fun r h' => r = eI 0 ∧ h' = h) := by
  refine Sp.of Try.func116 rfl rfl (by show 4 ≤ 37; decide) ?_
  (repeat (first | refine AC.seq ?_ | refine AC.block ?_ | refine AC.skip ?_))
  refine AC.region ?_
  refine AOps.step rfl rfl ?_
  refine AOp.of_run (ARun.mvV (.inr rfl) rfl) ?_
  refine AOps.nil ?_
  (repeat (first | refine AC.seq ?_ | refine AC.block ?_ | refine AC.skip ?_))
  refine AC.region ?_
  refine AOps.step rfl rfl ?_
  refine AOp.of_run (ARun.mvV (.inl rfl) rfl) ?_
  refine AOps.nil ?_
  (repeat (first | refine AC.seq ?_ | refine AC.block ?_ | refine AC.skip ?_))
  refine AC.region ?_
  refine AOps.step rfl rfl ?_
  refine AOp.of_run (ARun.eql rfl rfl rfl) ?_
  refine AOps.step rfl rfl ?_
  refine AOp.of_run (ARun.mvV (.inr rfl) rfl) ?_
  refine AOps.nil ?_
  (repeat (first | refine AC.seq ?_ | refine AC.block ?_ | refine AC.skip ?_)); refine AC.cond rfl (fun hc => ?_) (fun hc => ?_)
  · (repeat (first | refine AC.seq ?_ | refine AC.block ?_ | refine AC.skip ?_ | refine AC.exit ?_))
    (repeat (first | refine AC.seq ?_ | refine AC.block ?_ | refine AC.skip ?_))
    refine AC.region ?_
    refine AOps.step rfl rfl ?_
    refine AOp.of_run (ARun.mvV (.inl rfl) rfl) ?_
    refine AOps.step rfl rfl ?_
    refine AOp.of_run (ARun.not rfl rfl) ?_
    refine AOps.nil ?_
    (repeat (first | refine AC.seq ?_ | refine AC.block ?_ | refine AC.skip ?_)); refine AC.cond rfl (fun hc => ?_) (fun hc => ?_)
    · cases hc
    · (repeat (first | refine AC.seq ?_ | refine AC.block ?_ | refine AC.skip ?_ | refine AC.exit ?_))
      (repeat (first | refine AC.seq ?_ | refine AC.block ?_ | refine AC.skip ?_))
      refine AC.region ?_
      refine AOps.step rfl rfl ?_
      refine AOp.of_run (ARun.mvV (.inl rfl) rfl) ?_
      refine AOps.step rfl rfl ?_
      refine AOp.of_run (ARun.convI rfl rfl) ?_
      refine AOps.step rfl rfl ?_
      refine AOp.of_run (ARun.mvV (.inl rfl) rfl) ?_
      refine AOps.step rfl rfl ?_
      refine AOp.of_run (ARun.convI rfl rfl) ?_
      refine AOps.step rfl rfl (AOp.call_ rfl rfl ((cmp141_spec h).mono ?_))
      rintro _ _ ⟨rfl, rfl⟩
      refine AOps.step rfl rfl ?_
      refine AOp.of_run (ARun.mvV (.inr rfl) rfl) ?_
      refine AOps.nil ?_
      refine AC.ret (ARes.one rfl (RV.V rfl) ⟨rfl, rfl⟩)
  · (repeat (first | refine AC.seq ?_ | refine AC.block ?_ | refine AC.skip ?_ | refine AC.exit ?_))
    (repeat (first | refine AC.seq ?_ | refine AC.block ?_ | refine AC.skip ?_))
    refine AC.region ?_
    refine AOps.step rfl rfl ?_
    refine AOp.of_run (ARun.eql rfl rfl rfl) ?_
    refine AOps.step rfl rfl ?_
    refine AOp.of_run (ARun.mvV (.inr rfl) rfl) ?_
    refine AOps.nil ?_
    (repeat (first | refine AC.seq ?_ | refine AC.block ?_ | refine AC.skip ?_)); refine AC.cond rfl (fun hc => ?_) (fun hc => ?_)
    · (repeat (first | refine AC.seq ?_ | refine AC.block ?_ | refine AC.skip ?_ | refine AC.exit ?_))
      (repeat (first | refine AC.seq ?_ | refine AC.block ?_ | refine AC.skip ?_))
      refine AC.region ?_
      refine AOps.step rfl rfl ?_
      refine AOp.of_run (ARun.mvV (.inl rfl) rfl) ?_
      refine AOps.step rfl rfl ?_
      refine AOp.of_run (ARun.not rfl rfl) ?_
      refine AOps.nil ?_
      (repeat (first | refine AC.seq ?_ | refine AC.block ?_ | refine AC.skip ?_)); refine AC.cond rfl (fun hc => ?_) (fun hc => ?_)
      · cases hc
      · (repeat (first | refine AC.seq ?_ | refine AC.block ?_ | refine AC.skip ?_ | refine AC.exit ?_))
        (repeat (first | refine AC.seq ?_ | refine AC.block ?_ | refine AC.skip ?_))
        refine AC.region ?_
        refine AOps.step rfl rfl ?_
        refine AOp.of_run (ARun.mvV (.inl rfl) rfl) ?_
        refine AOps.step rfl rfl ?_
        refine AOp.of_run (ARun.convI rfl rfl) ?_
        refine AOps.step rfl rfl ?_
        refine AOp.of_run (ARun.mvV (.inl rfl) rfl) ?_
        refine AOps.step rfl rfl ?_
        refine AOp.of_run (ARun.convI rfl rfl) ?_
        refine AOps.step rfl rfl (AOp.call_ rfl rfl ((cmp141_spec h).mono ?_))
        rintro _ _ ⟨rfl, rfl⟩
        refine AOps.step rfl rfl ?_
        refine AOp.of_run (ARun.mvV (.inr rfl) rfl) ?_
        refine AOps.nil ?_
        refine AC.ret (ARes.one rfl (RV.V rfl) ⟨rfl, rfl⟩)
    · (repeat (first | refine AC.seq ?_ | refine AC.block ?_ | refine AC.skip ?_ | refine AC.exit ?_))
      (repeat (first | refine AC.seq ?_ | refine AC.block ?_ | refine AC.skip ?_))
      refine AC.region ?_
      refine AOps.step rfl rfl ?_
      refine AOp.of_run (ARun.eql rfl rfl rfl) ?_
      refine AOps.step rfl rfl ?_
      refine AOp.of_run (ARun.mvV (.inr rfl) rfl) ?_
      refine AOps.nil ?_
      (repeat (first | refine AC.seq ?_ | refine AC.block ?_ | refine AC.skip ?_)); refine AC.cond rfl (fun hc => ?_) (fun hc => ?_)
      · (repeat (first | refine AC.seq ?_ | refine AC.block ?_ | refine AC.skip ?_ | refine AC.exit ?_))
        (repeat (first | refine AC.seq ?_ | refine AC.block ?_ | refine AC.skip ?_))
        refine AC.region ?_
        refine AOps.step rfl rfl ?_
        refine AOp.of_run (ARun.mvV (.inl rfl) rfl) ?_
        refine AOps.step rfl rfl ?_
        refine AOp.of_run (ARun.not rfl rfl) ?_
        refine AOps.nil ?_
        (repeat (first | refine AC.seq ?_ | refine AC.block ?_ | refine AC.skip ?_)); refine AC.cond rfl (fun hc => ?_) (fun hc => ?_)
        · cases hc
        · (repeat (first | refine AC.seq ?_ | refine AC.block ?_ | refine AC.skip ?_ | refine AC.exit ?_))
          (repeat (first | refine AC.seq ?_ | refine AC.block ?_ | refine AC.skip ?_))
          refine AC.region ?_
          refine AOps.step rfl rfl ?_
          refine AOp.of_run (ARun.mvV (.inl rfl) rfl) ?_
          refine AOps.step rfl rfl ?_
          refine AOp.of_run (ARun.convI rfl rfl) ?_
          refine AOps.step rfl rfl ?_
          refine AOp.of_run (ARun.mvV (.inl rfl) rfl) ?_
          refine AOps.step rfl rfl ?_
          refine AOp.of_run (ARun.convI rfl rfl) ?_
          refine AOps.step rfl rfl (AOp.call_ rfl rfl ((cmp141_spec h).mono ?_))
          rintro _ _ ⟨rfl, rfl⟩
          refine AOps.step rfl rfl ?_
          refine AOp.of_run (ARun.mvV (.inr rfl) rfl) ?_
          refine AOps.nil ?_
          refine AC.ret (ARes.one rfl (RV.V rfl) ⟨rfl, rfl⟩)
      · (repeat (first | refine AC.seq ?_ | refine AC.block ?_ | refine AC.skip ?_ | refine AC.exit ?_))
        (repeat (first | refine AC.seq ?_ | refine AC.block ?_ | refine AC.skip ?_))
        refine AC.region ?_
        refine AOps.step rfl rfl ?_
        refine AOp.of_run (ARun.eql rfl rfl rfl) ?_
        refine AOps.step rfl rfl ?_
        refine AOp.of_run (ARun.mvV (.inr rfl) rfl) ?_
        refine AOps.nil ?_
        (repeat (first | refine AC.seq ?_ | refine AC.block ?_ | refine AC.skip ?_)); refine AC.cond rfl (fun hc => ?_) (fun hc => ?_)
        · (repeat (first | refine AC.seq ?_ | refine AC.block ?_ | refine AC.skip ?_ | refine AC.exit ?_))
          (repeat (first | refine AC.seq ?_ | refine AC.block ?_ | refine AC.skip ?_))
          refine AC.region ?_
          refine AOps.step rfl rfl ?_
          refine AOp.of_run (ARun.mvV (.inl rfl) rfl) ?_
          refine AOps.step rfl rfl ?_
          refine AOp.of_run (ARun.not rfl rfl) ?_
          refine AOps.nil ?_
          (repeat (first | refine AC.seq ?_ | refine AC.block ?_ | refine AC.skip ?_)); refine AC.cond rfl (fun hc => ?_) (fun hc => ?_)
          · cases hc
          · (repeat (first | refine AC.seq ?_ | refine AC.block ?_ | refine AC.skip ?_ | refine AC.exit ?_))
            (repeat (first | refine AC.seq ?_ | refine AC.block ?_ | refine AC.skip ?_))
            refine AC.region ?_
            refine AOps.step rfl rfl ?_
            refine AOp.of_run (ARun.mvV (.inl rfl) rfl) ?_
            refine AOps.step rfl rfl ?_
            refine AOp.of_run (ARun.convI rfl rfl) ?_
            refine AOps.step rfl rfl ?_
            refine AOp.of_run (ARun.mvV (.inl rfl) rfl) ?_
            refine AOps.step rfl rfl ?_
            refine AOp.of_run (ARun.convI rfl rfl) ?_
            refine AOps.step rfl rfl (AOp.call_ rfl rfl ((cmp141_spec h).mono ?_))
            rintro _ _ ⟨rfl, rfl⟩
            refine AOps.step rfl rfl ?_
            refine AOp.of_run (ARun.mvV (.inr rfl) rfl) ?_
            refine AOps.nil ?_
            refine AC.ret (ARes.one rfl (RV.V rfl) ⟨rfl, rfl⟩)
        · (repeat (first | refine AC.seq ?_ | refine AC.block ?_ | refine AC.skip ?_ | refine AC.exit ?_))
          (repeat (first | refine AC.seq ?_ | refine AC.block ?_ | refine AC.skip ?_))
          refine AC.region ?_
          refine AOps.step rfl rfl ?_
          refine AOp.of_run (ARun.mvV (.inl rfl) rfl) ?_
          refine AOps.step rfl rfl ?_
          refine AOp.of_run (ARun.mvV (.inl rfl) rfl) ?_
          refine AOps.step rfl rfl (AOp.call_ rfl rfl ((cmp142_spec h).mono ?_))
          rintro _ _ ⟨rfl, rfl⟩
          refine AOps.step rfl rfl ?_
          refine AOp.of_run (ARun.mvV (.inr rfl) rfl) ?_
          refine AOps.nil ?_
          refine AC.ret (ARes.one rfl (RV.V rfl) ⟨rfl, rfl⟩)

set_option maxRecDepth 10000 in
theorem Cond0_spec (op : Int) (h : AHeap) : Sp Try.prog 87 [eI op, eU 0, eU 0, eB true] h (fun r h' => (∃ v, r = .tup [v, eB (condB op)]) ∧ h' = h) := by
  refine Sp.of Try.func87 rfl rfl (by show 4 ≤ 57; decide) ?_
  (repeat (first | refine AC.seq ?_ | refine AC.block ?_ | refine AC.skip ?_))
  refine AC.region ?_
  refine AOps.step rfl rfl ?_
  refine AOp.of_run (ARun.mvV (.inr rfl) rfl) ?_
  refine AOps.step rfl rfl ?_
  refine AOp.of_run (ARun.mvV (.inr rfl) rfl) ?_
  refine AOps.nil ?_
  (repeat (first | refine AC.seq ?_ | refine AC.block ?_ | refine AC.skip ?_))
  refine AC.region ?_
  refine AOps.step rfl rfl ?_
  refine AOp.of_run (ARun.mvV (.inl rfl) rfl) ?_
  refine AOps.step rfl rfl ?_
  refine AOp.of_run (ARun.mvV (.inl rfl) rfl) ?_
  refine AOps.step rfl rfl (AOp.call_ rfl rfl ((low_spec 0 h).mono ?_))
  rintro _ _ ⟨rfl, rfl⟩
  refine AOps.step rfl rfl ?_
  refine AOp.of_run (ARun.mvV (.inl rfl) rfl) ?_
  refine AOps.step rfl rfl ?_
  refine AOp.of_run (ARun.mvV (.inl rfl) rfl) ?_
  refine AOps.step rfl rfl (AOp.call_ rfl rfl ((low_spec 0 _).mono ?_))
  rintro _ _ ⟨rfl, rfl⟩
  refine AOps.step rfl rfl ?_
  refine AOp.of_run (ARun.mvV (.inr rfl) rfl) ?_
  refine AOps.step rfl rfl ?_
  refine AOp.of_run (ARun.mvV (.inr rfl) rfl) ?_
  refine AOps.nil ?_
  (repeat (first | refine AC.seq ?_ | refine AC.block ?_ | refine AC.skip ?_))
  refine AC.region ?_
  refine AOps.step rfl rfl ?_
  refine AOp.of_run (ARun.mvV (.inl rfl) rfl) ?_
  refine AOps.step rfl rfl ?_
  refine AOp.of_run (ARun.mvV (.inl rfl) rfl) ?_
  refine AOps.step rfl rfl ?_
  refine AOp.of_run (ARun.mvV (.inl rfl) rfl) ?_
  refine AOps.step rfl rfl ?_
  refine AOp.of_run (ARun.mvV (.inl rfl) rfl) ?_
  refine AOps.step rfl rfl (AOp.call_ rfl rfl ((order0_spec op _).mono ?_))
  rintro _ _ ⟨rfl, rfl⟩
  refine AOps.step rfl rfl ?_
  refine AOp.of_run (ARun.mvV (.inr rfl) rfl) ?_
  refine AOps.nil ?_
  (repeat (first | refine AC.seq ?_ | refine AC.block ?_ | refine AC.skip ?_))
  refine AC.region ?_
  refine AOps.step rfl rfl ?_
  refine AOp.of_run (ARun.mvV (.inl rfl) rfl) ?_
  refine AOps.nil ?_
  (repeat (first | refine AC.seq ?_ | refine AC.block ?_ | refine AC.skip ?_))
  refine AC.region ?_
  refine AOps.step rfl rfl ?_
  refine AOp.of_run (ARun.eql rfl rfl rfl) ?_
  refine AOps.step rfl rfl ?_
  refine AOp.of_run (ARun.mvV (.inr rfl) rfl) ?_
  refine AOps.nil ?_
  (repeat (first | refine AC.seq ?_ | refine AC.block ?_ | refine AC.skip ?_)); refine AC.cond rfl (fun hc => ?_) (fun hc => ?_)
  · have e : op = 16 := by simpa using hc
    (repeat (first | refine AC.seq ?_ | refine AC.block ?_ | refine AC.skip ?_))
    refine AC.region ?_
    refine AOps.step rfl rfl ?_
    refine AOp.of_run (ARun.mvV (.inl rfl) rfl) ?_
    refine AOps.step rfl rfl ?_
    refine AOp.of_run (ARun.eql rfl rfl rfl) ?_
    refine AOps.step rfl rfl ?_
    refine AOp.of_run (ARun.mvV (.inr rfl) rfl) ?_
    refine AOps.step rfl rfl ?_
    refine AOp.of_run (ARun.mvV (.inr rfl) rfl) ?_
    refine AOps.nil ?_
    refine AC.ret (ARes.two rfl RV.tmp RV.tmp ⟨⟨_, by rw [condB_yes (show op ∈ condL by rw [e]; decide)]; rfl⟩, rfl⟩)
  · have n16 : op ≠ 16 := by simpa using hc
    (repeat (first | refine AC.seq ?_ | refine AC.block ?_ | refine AC.skip ?_))
    refine AC.region ?_
    refine AOps.step rfl rfl ?_
    refine AOp.of_run (ARun.eql rfl rfl rfl) ?_
    refine AOps.step rfl rfl ?_
    refine AOp.of_run (ARun.mvV (.inr rfl) rfl) ?_
    refine AOps.nil ?_
    (repeat (first | refine AC.seq ?_ | refine AC.block ?_ | refine AC.skip ?_)); refine AC.cond rfl (fun hc => ?_) (fun hc => ?_)
    · have e : op = 80 := by simpa using hc
      (repeat (first | refine AC.seq ?_ | refine AC.block ?_ | refine AC.skip ?_))
      refine AC.region ?_
      refine AOps.step rfl rfl ?_
      refine AOp.of_run (ARun.mvV (.inl rfl) rfl) ?_
      refine AOps.step rfl rfl ?_
      refine AOp.of_run (ARun.neq rfl rfl rfl) ?_
      refine AOps.step rfl rfl ?_
      refine AOp.of_run (ARun.mvV (.inr rfl) rfl) ?_
      refine AOps.step rfl rfl ?_
      refine AOp.of_run (ARun.mvV (.inr rfl) rfl) ?_
      refine AOps.nil ?_
      refine AC.ret (ARes.two rfl RV.tmp RV.tmp ⟨⟨_, by rw [condB_yes (show op ∈ condL by rw [e]; decide)]; rfl⟩, rfl⟩)
    · have n80 : op ≠ 80 := by simpa using hc
      (repeat (first | refine AC.seq ?_ | refine AC.block ?_ | refine AC.skip ?_))
      refine AC.region ?_
      refine AOps.step rfl rfl ?_
      refine AOp.of_run (ARun.eql rfl rfl rfl) ?_
      refine AOps.step rfl rfl ?_
      refine AOp.of_run (ARun.mvV (.inr rfl) rfl) ?_
      refine AOps.nil ?_
      (repeat (first | refine AC.seq ?_ | refine AC.block ?_ | refine AC.skip ?_)); refine AC.cond rfl (fun hc => ?_) (fun hc => ?_)
      · have e : op = 64 := by simpa using hc
        (repeat (first | refine AC.seq ?_ | refine AC.block ?_ | refine AC.skip ?_))
        refine AC.region ?_
        refine AOps.step rfl rfl ?_
        refine AOp.of_run (ARun.mvV (.inl rfl) rfl) ?_
        refine AOps.step rfl rfl ?_
        refine AOp.of_run (ARun.mvV (.inl rfl) rfl) ?_
        refine AOps.step rfl rfl ?_
        refine AOp.of_run (ARun.and rfl rfl rfl) ?_
        refine AOps.step rfl rfl ?_
        refine AOp.of_run (ARun.neq rfl rfl rfl) ?_
        refine AOps.step rfl rfl ?_
        refine AOp.of_run (ARun.mvV (.inr rfl) rfl) ?_
        refine AOps.step rfl rfl ?_
        refine AOp.of_run (ARun.mvV (.inr rfl) rfl) ?_
        refine AOps.nil ?_
        refine AC.ret (ARes.two rfl RV.tmp RV.tmp ⟨⟨_, by rw [condB_yes (show op ∈ condL by rw [e]; decide)]; rfl⟩, rfl⟩)
      · have n64 : op ≠ 64 := by simpa using hc
        (repeat (first | refine AC.seq ?_ | refine AC.block ?_ | refine AC.skip ?_))
        refine AC.region ?_
        refine AOps.step rfl rfl ?_
        refine AOp.of_run (ARun.eql rfl rfl rfl) ?_
        refine AOps.step rfl rfl ?_
        refine AOp.of_run (ARun.mvV (.inr rfl) rfl) ?_
        refine AOps.nil ?_
        (repeat (first | refine AC.seq ?_ | refine AC.block ?_ | refine AC.skip ?_)); refine AC.cond rfl (fun hc => ?_) (fun hc => ?_)
        · have e : op = 32 := by simpa using hc
          (repeat (first | refine AC.seq ?_ | refine AC.block ?_ | refine AC.skip ?_ | refine AC.exit ?_))
          (repeat (first | refine AC.seq ?_ | refine AC.block ?_ | refine AC.skip ?_)); refine AC.cond rfl (fun hc => ?_) (fun hc => ?_)
          · (repeat (first | refine AC.seq ?_ | refine AC.block ?_ | refine AC.skip ?_))
            refine AC.region ?_
            refine AOps.step rfl rfl ?_
            refine AOp.of_run (ARun.mvV (.inl rfl) rfl) ?_
            refine AOps.step rfl rfl ?_
            refine AOp.of_run (ARun.gtr rfl rfl rfl) ?_
            refine AOps.step rfl rfl ?_
            refine AOp.of_run (ARun.mvV (.inr rfl) rfl) ?_
            refine AOps.step rfl rfl ?_
            refine AOp.of_run (ARun.mvV (.inr rfl) rfl) ?_
            refine AOps.nil ?_
            refine AC.ret (ARes.two rfl RV.tmp RV.tmp ⟨⟨_, by rw [condB_yes (show op ∈ condL by rw [e]; decide)]; rfl⟩, rfl⟩)
          · simp [e] at hc
        · have n32 : op ≠ 32 := by simpa using hc
          (repeat (first | refine AC.seq ?_ | refine AC.block ?_ | refine AC.skip ?_))
          refine AC.region ?_
          refine AOps.step rfl rfl ?_
          refine AOp.of_run (ARun.eql rfl rfl rfl) ?_
          refine AOps.step rfl rfl ?_
          refine AOp.of_run (ARun.mvV (.inr rfl) rfl) ?_
          refine AOps.nil ?_
          (repeat (first | refine AC.seq ?_ | refine AC.block ?_ | refine AC.skip ?_)); refine AC.cond rfl (fun hc => ?_) (fun hc => ?_)
          · have e : op = 96 := by simpa using hc
            (repeat (first | refine AC.seq ?_ | refine AC.block ?_ | refine AC.skip ?_))
            refine AC.region ?_
            refine AOps.step rfl rfl ?_
            refine AOp.of_run (ARun.mvV (.inl rfl) rfl) ?_
            refine AOps.step rfl rfl ?_
            refine AOp.of_run (ARun.gtr rfl rfl rfl) ?_
            refine AOps.step rfl rfl ?_
            refine AOp.of_run (ARun.mvV (.inr rfl) rfl) ?_
            refine AOps.step rfl rfl ?_
            refine AOp.of_run (ARun.mvV (.inr rfl) rfl) ?_
            refine AOps.nil ?_
            refine AC.ret (ARes.two rfl RV.tmp RV.tmp ⟨⟨_, by rw [condB_yes (show op ∈ condL by rw [e]; decide)]; rfl⟩, rfl⟩)
          · have n96 : op ≠ 96 := by simpa using hc
            (repeat (first | refine AC.seq ?_ | refine AC.block ?_ | refine AC.skip ?_))
            refine AC.region ?_
            refine AOps.step rfl rfl ?_
            refine AOp.of_run (ARun.eql rfl rfl rfl) ?_
            refine AOps.step rfl rfl ?_
            refine AOp.of_run (ARun.mvV (.inr rfl) rfl) ?_
            refine AOps.nil ?_
            (repeat (first | refine AC.seq ?_ | refine AC.block ?_ | refine AC.skip ?_)); refine AC.cond rfl (fun hc => ?_) (fun hc => ?_)
            · have e : op = 48 := by simpa using hc
              (repeat (first | refine AC.seq ?_ | refine AC.block ?_ | refine AC.skip ?_ | refine AC.exit ?_))
              (repeat (first | refine AC.seq ?_ | refine AC.block ?_ | refine AC.skip ?_)); refine AC.cond rfl (fun hc => ?_) (fun hc => ?_)
              · (repeat (first | refine AC.seq ?_ | refine AC.block ?_ | refine AC.skip ?_))
                refine AC.region ?_
                refine AOps.step rfl rfl ?_
                refine AOp.of_run (ARun.mvV (.inl rfl) rfl) ?_
                refine AOps.step rfl rfl ?_
                refine AOp.of_run (ARun.geq rfl rfl rfl) ?_
                refine AOps.step rfl rfl ?_
                refine AOp.of_run (ARun.mvV (.inr rfl) rfl) ?_
                refine AOps.step rfl rfl ?_
                refine AOp.of_run (ARun.mvV (.inr rfl) rfl) ?_
                refine AOps.nil ?_
                refine AC.ret (ARes.two rfl RV.tmp RV.tmp ⟨⟨_, by rw [condB_yes (show op ∈ condL by rw [e]; decide)]; rfl⟩, rfl⟩)
              · simp [e] at hc
            · have n48 : op ≠ 48 := by simpa using hc
              (repeat (first | refine AC.seq ?_ | refine AC.block ?_ | refine AC.skip ?_))
              refine AC.region ?_
              refine AOps.step rfl rfl ?_
              refine AOp.of_run (ARun.eql rfl rfl rfl) ?_
              refine AOps.step rfl rfl ?_
              refine AOp.of_run (ARun.mvV (.inr rfl) rfl) ?_
              refine AOps.nil ?_
              (repeat (first | refine AC.seq ?_ | refine AC.block ?_ | refine AC.skip ?_)); refine AC.cond rfl (fun hc => ?_) (fun hc => ?_)
              · have e : op = 112 := by simpa using hc
                (repeat (first | refine AC.seq ?_ | refine AC.block ?_ | refine AC.skip ?_))
                refine AC.region ?_
                refine AOps.step rfl rfl ?_
                refine AOp.of_run (ARun.mvV (.inl rfl) rfl) ?_
                refine AOps.step rfl rfl ?_
                refine AOp.of_run (ARun.geq rfl rfl rfl) ?_
                refine AOps.step rfl rfl ?_
                refine AOp.of_run (ARun.mvV (.inr rfl) rfl) ?_
                refine AOps.step rfl rfl ?_
                refine AOp.of_run (ARun.mvV (.inr rfl) rfl) ?_
                refine AOps.nil ?_
                refine AC.ret (ARes.two rfl RV.tmp RV.tmp ⟨⟨_, by rw [condB_yes (show op ∈ condL by rw [e]; decide)]; rfl⟩, rfl⟩)
              · have n112 : op ≠ 112 := by simpa using hc
                (repeat (first | refine AC.seq ?_ | refine AC.block ?_ | refine AC.skip ?_))
                refine AC.region ?_
                refine AOps.step rfl rfl ?_
                refine AOp.of_run (ARun.eql rfl rfl rfl) ?_
                refine AOps.step rfl rfl ?_
                refine AOp.of_run (ARun.mvV (.inr rfl) rfl) ?_
                refine AOps.nil ?_
                (repeat (first | refine AC.seq ?_ | refine AC.block ?_ | refine AC.skip ?_)); refine AC.cond rfl (fun hc => ?_) (fun hc => ?_)
                · have e : op = 160 := by simpa using hc
                  (repeat (first | refine AC.seq ?_ | refine AC.block ?_ | refine AC.skip ?_ | refine AC.exit ?_))
                  (repeat (first | refine AC.seq ?_ | refine AC.block ?_ | refine AC.skip ?_)); refine AC.cond rfl (fun hc => ?_) (fun hc => ?_)
                  · (repeat (first | refine AC.seq ?_ | refine AC.block ?_ | refine AC.skip ?_))
                    refine AC.region ?_
                    refine AOps.step rfl rfl ?_
                    refine AOp.of_run (ARun.mvV (.inl rfl) rfl) ?_
                    refine AOps.step rfl rfl ?_
                    refine AOp.of_run (ARun.lss rfl rfl rfl) ?_
                    refine AOps.step rfl rfl ?_
                    refine AOp.of_run (ARun.mvV (.inr rfl) rfl) ?_
                    refine AOps.step rfl rfl ?_
                    refine AOp.of_run (ARun.mvV (.inr rfl) rfl) ?_
                    refine AOps.nil ?_
                    refine AC.ret (ARes.two rfl RV.tmp RV.tmp ⟨⟨_, by rw [condB_yes (show op ∈ condL by rw [e]; decide)]; rfl⟩, rfl⟩)
                  · simp [e] at hc
                · have n160 : op ≠ 160 := by simpa using hc
                  (repeat (first | refine AC.seq ?_ | refine AC.block ?_ | refine AC.skip ?_))
                  refine AC.region ?_
                  refine AOps.step rfl rfl ?_
                  refine AOp.of_run (ARun.eql rfl rfl rfl) ?_
                  refine AOps.step rfl rfl ?_
                  refine AOp.of_run (ARun.mvV (.inr rfl) rfl) ?_
                  refine AOps.nil ?_
                  (repeat (first | refine AC.seq ?_ | refine AC.block ?_ | refine AC.skip ?_)); refine AC.cond rfl (fun hc => ?_) (fun hc => ?_)
                  · have e : op = 192 := by simpa using hc
                    (repeat (first | refine AC.seq ?_ | refine AC.block ?_ | refine AC.skip ?_))
                    refine AC.region ?_
                    refine AOps.step rfl rfl ?_
                    refine AOp.of_run (ARun.mvV (.inl rfl) rfl) ?_
                    refine AOps.step rfl rfl ?_
                    refine AOp.of_run (ARun.lss rfl rfl rfl) ?_
                    refine AOps.step rfl rfl ?_
                    refine AOp.of_run (ARun.mvV (.inr rfl) rfl) ?_
                    refine AOps.step rfl rfl ?_
                    refine AOp.of_run (ARun.mvV (.inr rfl) rfl) ?_
                    refine AOps.nil ?_
                    refine AC.ret (ARes.two rfl RV.tmp RV.tmp ⟨⟨_, by rw [condB_yes (show op ∈ condL by rw [e]; decide)]; rfl⟩, rfl⟩)
                  · have n192 : op ≠ 192 := by simpa using hc
                    (repeat (first | refine AC.seq ?_ | refine AC.block ?_ | refine AC.skip ?_))
                    refine AC.region ?_
                    refine AOps.step rfl rfl ?_
                    refine AOp.of_run (ARun.eql rfl rfl rfl) ?_
                    refine AOps.step rfl rfl ?_
                    refine AOp.of_run (ARun.mvV (.inr rfl) rfl) ?_
                    refine AOps.nil ?_
                    (repeat (first | refine AC.seq ?_ | refine AC.block ?_ | refine AC.skip ?_)); refine AC.cond rfl (fun hc => ?_) (fun hc => ?_)
                    · have e : op = 176 := by simpa using hc
                      (repeat (first | refine AC.seq ?_ | refine AC.block ?_ | refine AC.skip ?_ | refine AC.exit ?_))
                      (repeat (first | refine AC.seq ?_ | refine AC.block ?_ | refine AC.skip ?_)); refine AC.cond rfl (fun hc => ?_) (fun hc => ?_)
                      · (repeat (first | refine AC.seq ?_ | refine AC.block ?_ | refine AC.skip ?_))
                        refine AC.region ?_
                        refine AOps.step rfl rfl ?_
                        refine AOp.of_run (ARun.mvV (.inl rfl) rfl) ?_
                        refine AOps.step rfl rfl ?_
                        refine AOp.of_run (ARun.leq rfl rfl rfl) ?_
                        refine AOps.step rfl rfl ?_
                        refine AOp.of_run (ARun.mvV (.inr rfl) rfl) ?_
                        refine AOps.step rfl rfl ?_
                        refine AOp.of_run (ARun.mvV (.inr rfl) rfl) ?_
                        refine AOps.nil ?_
                        refine AC.ret (ARes.two rfl RV.tmp RV.tmp ⟨⟨_, by rw [condB_yes (show op ∈ condL by rw [e]; decide)]; rfl⟩, rfl⟩)
                      · simp [e] at hc
                    · have n176 : op ≠ 176 := by simpa using hc
                      (repeat (first | refine AC.seq ?_ | refine AC.block ?_ | refine AC.skip ?_))
                      refine AC.region ?_
                      refine AOps.step rfl rfl ?_
                      refine AOp.of_run (ARun.eql rfl rfl rfl) ?_
                      refine AOps.step rfl rfl ?_
                      refine AOp.of_run (ARun.mvV (.inr rfl) rfl) ?_
                      refine AOps.nil ?_
                      (repeat (first | refine AC.seq ?_ | refine AC.block ?_ | refine AC.skip ?_)); refine AC.cond rfl (fun hc => ?_) (fun hc => ?_)
                      · have e : op = 208 := by simpa using hc
                        (repeat (first | refine AC.seq ?_ | refine AC.block ?_ | refine AC.skip ?_))
                        refine AC.region ?_
                        refine AOps.step rfl rfl ?_
                        refine AOp.of_run (ARun.mvV (.inl rfl) rfl) ?_
                        refine AOps.step rfl rfl ?_
                        refine AOp.of_run (ARun.leq rfl rfl rfl) ?_
                        refine AOps.step rfl rfl ?_
                        refine AOp.of_run (ARun.mvV (.inr rfl) rfl) ?_
                        refine AOps.step rfl rfl ?_
                        refine AOp.of_run (ARun.mvV (.inr rfl) rfl) ?_
                        refine AOps.nil ?_
                        refine AC.ret (ARes.two rfl RV.tmp RV.tmp ⟨⟨_, by rw [condB_yes (show op ∈ condL by rw [e]; decide)]; rfl⟩, rfl⟩)
                      · have n208 : op ≠ 208 := by simpa using hc
                        (repeat (first | refine AC.seq ?_ | refine AC.block ?_ | refine AC.skip ?_ | refine AC.exit ?_))
                        (repeat (first | refine AC.seq ?_ | refine AC.block ?_ | refine AC.skip ?_))
                        refine AC.region ?_
                        refine AOps.step rfl rfl ?_
                        refine AOp.of_run (ARun.mvV (.inr rfl) rfl) ?_
                        refine AOps.step rfl rfl ?_
                        refine AOp.of_run (ARun.mvV (.inr rfl) rfl) ?_
                        refine AOps.nil ?_
                        refine AC.ret (ARes.two rfl RV.tmp RV.tmp ⟨⟨_, by rw [show condB op = false from decide_eq_false (by simp [condL, n16, n80, n64, n32, n96, n48, n112, n160, n192, n176, n208])]; rfl⟩, rfl⟩)

set_option maxRecDepth 10000 in
theorem neg0_spec (h : AHeap) : Sp Try.prog 121 [eU 0, eB true] h (fun r h' => r = eB false ∧ h' = h) := by
  refine Sp.of Try.func121 rfl rfl (by show 2 ≤ 13; decide) ?_
  (repeat (first | refine AC.seq ?_ | refine AC.block ?_ | refine AC.skip ?_))
  refine AC.region ?_
  refine AOps.step rfl rfl ?_
  refine AOp.of_run (ARun.mvV (.inr rfl) rfl) ?_
  refine AOps.nil ?_
  (repeat (first | refine AC.seq ?_ | refine AC.block ?_ | refine AC.skip ?_))
  refine AC.region ?_
  refine AOps.step rfl rfl ?_
  refine AOp.of_run (ARun.mvV (.inl rfl) rfl) ?_
  refine AOps.nil ?_
  (repeat (first | refine AC.seq ?_ | refine AC.block ?_ | refine AC.skip ?_)); refine AC.cond rfl (fun hc => ?_) (fun hc => ?_)
  · (repeat (first | refine AC.seq ?_ | refine AC.block ?_ | refine AC.skip ?_))
    refine AC.region ?_
    refine AOps.step rfl rfl ?_
    refine AOp.of_run (ARun.mvV (.inl rfl) rfl) ?_
    refine AOps.step rfl rfl (AOp.of_run (ARun.shr rfl rfl rfl (by decide)) ?_)
    refine AOps.step rfl rfl ?_
    refine AOp.of_run (ARun.eql rfl rfl rfl) ?_
    refine AOps.step rfl rfl ?_
    refine AOp.of_run (ARun.mvV (.inr rfl) rfl) ?_
    refine AOps.nil ?_
    refine AC.ret (ARes.one rfl (RV.V rfl) ⟨rfl, rfl⟩)
  · cases hc
set_option maxRecDepth 10000 in
theorem less0_spec (s : Bool) (h : AHeap) : Sp Try.prog 97 [eU 0, eU 0, eB s, eB true] h (fun r h' => r = eB false ∧ h' = h) := by
  refine Sp.of Try.func97 rfl rfl (by show 4 ≤ 25; decide) ?_
  (repeat (first | refine AC.seq ?_ | refine AC.block ?_ | refine AC.skip ?_))
  refine AC.region ?_
  refine AOps.step rfl rfl ?_
  refine AOp.of_run (ARun.mvV (.inr rfl) rfl) ?_
  refine AOps.nil ?_
  (repeat (first | refine AC.seq ?_ | refine AC.block ?_ | refine AC.skip ?_ | refine AC.exit ?_))
  refine AC.mono (Q := fun ex τ h2 => ex = .normal ∧ h2 = h ∧ Slots τ [(0, eU 0), (1, eU 0), (8, eB false), (18, eB false)]) ?_ ?_
  · (repeat (first | refine AC.seq ?_ | refine AC.block ?_ | refine AC.skip ?_))
    refine AC.region ?_
    refine AOps.step rfl rfl ?_
    refine AOp.of_run (ARun.mvV (.inl rfl) rfl) ?_
    refine AOps.step rfl rfl ?_
    refine AOp.of_run (ARun.mvV (.inl rfl) rfl) ?_
    cases s
    · refine AOps.passU rfl rfl (by decide) rfl rfl rfl ?_
      refine AOps.passU rfl rfl (by decide) rfl rfl rfl ?_
      refine AOps.passU rfl rfl (by decide) rfl rfl rfl ?_
      refine AOps.passU rfl rfl (by decide) rfl rfl rfl ?_
      refine AOps.passU rfl rfl (by decide) rfl rfl rfl ?_
      refine AOps.passU rfl rfl (by decide) rfl rfl rfl ?_
      refine AOps.passU rfl rfl (by decide) rfl rfl rfl ?_
      refine AOps.step rfl rfl (AOp.of_run (ARun.pickF rfl rfl) ?_)
      refine AOps.nil ?_
      exact ⟨rfl, rfl, rfl, rfl, rfl, rfl, trivial⟩
    · refine AOps.want rfl rfl (by decide) rfl ?_
      refine AOps.step rfl rfl ?_
      refine AOp.of_run (ARun.mvV (.inl rfl) rfl) ?_
      refine AOps.want rfl rfl (by decide) rfl ?_
      refine AOps.step rfl rfl ?_
      refine AOp.of_run (ARun.mvV (.inl rfl) rfl) ?_
      refine AOps.want rfl rfl (by decide) rfl ?_
      refine AOps.step rfl rfl (AOp.call_ rfl rfl ((neg0_spec h).mono ?_))
      rintro _ _ ⟨rfl, rfl⟩
      refine AOps.want rfl rfl (by decide) rfl ?_
      refine AOps.step rfl rfl ?_
      refine AOp.of_run (ARun.mvV (.inl rfl) rfl) ?_
      refine AOps.want rfl rfl (by decide) rfl ?_
      refine AOps.step rfl rfl ?_
      refine AOp.of_run (ARun.mvV (.inl rfl) rfl) ?_
      refine AOps.want rfl rfl (by decide) rfl ?_
      refine AOps.step rfl rfl (AOp.call_ rfl rfl ((neg0_spec _).mono ?_))
      rintro _ _ ⟨rfl, rfl⟩
      refine AOps.want rfl rfl (by decide) rfl ?_
      refine AOps.step rfl rfl (AOp.of_run (ARun.neqB (by kernel_rfl) rfl rfl rfl) ?_)
      refine AOps.step rfl rfl (AOp.of_run (ARun.pickT rfl rfl) ?_)
      refine AOps.nil ?_
      exact ⟨rfl, rfl, rfl, rfl, rfl, rfl, trivial⟩
  rintro _ τ h6 ⟨rfl, rfl, hs⟩
  obtain ⟨t1, rfl⟩ := hs.open_
  (repeat (first | refine AC.seq ?_ | refine AC.block ?_ | refine AC.skip ?_)); refine AC.cond rfl (fun hc => ?_) (fun hc => ?_)
  · cases hc
  · (repeat (first | refine AC.seq ?_ | refine AC.block ?_ | refine AC.skip ?_ | refine AC.exit ?_))
    (repeat (first | refine AC.seq ?_ | refine AC.block ?_ | refine AC.skip ?_))
    refine AC.region ?_
    refine AOps.step rfl rfl ?_
    refine AOp.of_run (ARun.mvV (.inl rfl) rfl) ?_
    refine AOps.step rfl rfl ?_
    refine AOp.of_run (ARun.mvV (.inl rfl) rfl) ?_
    refine AOps.step rfl rfl ?_
    refine AOp.of_run (ARun.lss rfl rfl rfl) ?_
    refine AOps.step rfl rfl ?_
    refine AOp.of_run (ARun.mvV (.inr rfl) rfl) ?_
    refine AOps.nil ?_
    refine AC.ret (ARes.one rfl (RV.V rfl) ⟨rfl, rfl⟩)

set_option maxRecDepth 10000 in
theorem CondR0_spec (op : Int) (h : AHeap) : Sp Try.prog 68 [eI op, eU 0, eU 0, eB true] h (fun r h' => (∃ v, r = .tup [v, eB (condB op)]) ∧ h' = h) := by
  refine Sp.of Try.func68 rfl rfl (by show 4 ≤ 85; decide) ?_
  (repeat (first | refine AC.seq ?_ | refine AC.block ?_ | refine AC.skip ?_))
  refine AC.region ?_
  refine AOps.step rfl rfl ?_
  refine AOp.of_run (ARun.mvV (.inr rfl) rfl) ?_
  refine AOps.step rfl rfl ?_
  refine AOp.of_run (ARun.mvV (.inr rfl) rfl) ?_
  refine AOps.nil ?_
  (repeat (first | refine AC.seq ?_ | refine AC.block ?_ | refine AC.skip ?_))
  refine AC.region ?_
  refine AOps.step rfl rfl ?_
  refine AOp.of_run (ARun.mvV (.inl rfl) rfl) ?_
  refine AOps.step rfl rfl ?_
  refine AOp.of_run (ARun.not rfl rfl) ?_
  refine AOps.nil ?_
  (repeat (first | refine AC.seq ?_ | refine AC.block ?_ | refine AC.skip ?_)); refine AC.cond rfl (fun hc => ?_) (fun hc => ?_)
  · cases hc
  (repeat (first | refine AC.seq ?_ | refine AC.block ?_ | refine AC.skip ?_ | refine AC.exit ?_))
  (repeat (first | refine AC.seq ?_ | refine AC.block ?_ | refine AC.skip ?_))
  refine AC.region ?_
  refine AOps.step rfl rfl ?_
  refine AOp.of_run (ARun.mvV (.inl rfl) rfl) ?_
  refine AOps.nil ?_
  (repeat (first | refine AC.seq ?_ | refine AC.block ?_ | refine AC.skip ?_))
  refine AC.region ?_
  refine AOps.step rfl rfl ?_
  refine AOp.of_run (ARun.eql rfl rfl rfl) ?_
  refine AOps.step rfl rfl ?_
  refine AOp.of_run (ARun.mvV (.inr rfl) rfl) ?_
  refine AOps.nil ?_
  (repeat (first | refine AC.seq ?_ | refine AC.block ?_ | refine AC.skip ?_)); refine AC.cond rfl (fun hc => ?_) (fun hc => ?_)
  · have e : op = 16 := by simpa using hc
    (repeat (first | refine AC.seq ?_ | refine AC.block ?_ | refine AC.skip ?_))
    refine AC.region ?_
    refine AOps.step rfl rfl ?_
    refine AOp.of_run (ARun.mvV (.inl rfl) rfl) ?_
    refine AOps.step rfl rfl ?_
    refine AOp.of_run (ARun.mvV (.inl rfl) rfl) ?_
    refine AOps.step rfl rfl ?_
    refine AOp.of_run (ARun.eql rfl rfl rfl) ?_
    refine AOps.step rfl rfl ?_
    refine AOp.of_run (ARun.mvV (.inr rfl) rfl) ?_
    refine AOps.step rfl rfl ?_
    refine AOp.of_run (ARun.mvV (.inr rfl) rfl) ?_
    refine AOps.nil ?_
    refine AC.ret (ARes.two rfl RV.tmp RV.tmp ⟨⟨_, by rw [condB_yes (show op ∈ condL by rw [e]; decide)]; rfl⟩, rfl⟩)
  · have n16 : op ≠ 16 := by simpa using hc
    (repeat (first | refine AC.seq ?_ | refine AC.block ?_ | refine AC.skip ?_))
    refine AC.region ?_
    refine AOps.step rfl rfl ?_
    refine AOp.of_run (ARun.eql rfl rfl rfl) ?_
    refine AOps.step rfl rfl ?_
    refine AOp.of_run (ARun.mvV (.inr rfl) rfl) ?_
    refine AOps.nil ?_
    (repeat (first | refine AC.seq ?_ | refine AC.block ?_ | refine AC.skip ?_)); refine AC.cond rfl (fun hc => ?_) (fun hc => ?_)
    · have e : op = 80 := by simpa using hc
      (repeat (first | refine AC.seq ?_ | refine AC.block ?_ | refine AC.skip ?_))
      refine AC.region ?_
      refine AOps.step rfl rfl ?_
      refine AOp.of_run (ARun.mvV (.inl rfl) rfl) ?_
      refine AOps.step rfl rfl ?_
      refine AOp.of_run (ARun.mvV (.inl rfl) rfl) ?_
      refine AOps.step rfl rfl ?_
      refine AOp.of_run (ARun.neq rfl rfl rfl) ?_
      refine AOps.step rfl rfl ?_
      refine AOp.of_run (ARun.mvV (.inr rfl) rfl) ?_
      refine AOps.step rfl rfl ?_
      refine AOp.of_run (ARun.mvV (.inr rfl) rfl) ?_
      refine AOps.nil ?_
      refine AC.ret (ARes.two rfl RV.tmp RV.tmp ⟨⟨_, by rw [condB_yes (show op ∈ condL by rw [e]; decide)]; rfl⟩, rfl⟩)
    · have n80 : op ≠ 80 := by simpa using hc
      (repeat (first | refine AC.seq ?_ | refine AC.block ?_ | refine AC.skip ?_))
      refine AC.region ?_
      refine AOps.step rfl rfl ?_
      refine AOp.of_run (ARun.eql rfl rfl rfl) ?_
      refine AOps.step rfl rfl ?_
      refine AOp.of_run (ARun.mvV (.inr rfl) rfl) ?_
      refine AOps.nil ?_
      (repeat (first | refine AC.seq ?_ | refine AC.block ?_ | refine AC.skip ?_)); refine AC.cond rfl (fun hc => ?_) (fun hc => ?_)
      · have e : op = 64 := by simpa using hc
        (repeat (first | refine AC.seq ?_ | refine AC.block ?_ | refine AC.skip ?_))
        refine AC.region ?_
        refine AOps.step rfl rfl ?_
        refine AOp.of_run (ARun.mvV (.inl rfl) rfl) ?_
        refine AOps.step rfl rfl ?_
        refine AOp.of_run (ARun.mvV (.inl rfl) rfl) ?_
        refine AOps.step rfl rfl ?_
        refine AOp.of_run (ARun.and rfl rfl rfl) ?_
        refine AOps.step rfl rfl ?_
        refine AOp.of_run (ARun.neq rfl rfl rfl) ?_
        refine AOps.step rfl rfl ?_
        refine AOp.of_run (ARun.mvV (.inr rfl) rfl) ?_
        refine AOps.step rfl rfl ?_
        refine AOp.of_run (ARun.mvV (.inr rfl) rfl) ?_
        refine AOps.nil ?_
        refine AC.ret (ARes.two rfl RV.tmp RV.tmp ⟨⟨_, by rw [condB_yes (show op ∈ condL by rw [e]; decide)]; rfl⟩, rfl⟩)
      · have n64 : op ≠ 64 := by simpa using hc
        (repeat (first | refine AC.seq ?_ | refine AC.block ?_ | refine AC.skip ?_))
        refine AC.region ?_
        refine AOps.step rfl rfl ?_
        refine AOp.of_run (ARun.eql rfl rfl rfl) ?_
        refine AOps.step rfl rfl ?_
        refine AOp.of_run (ARun.mvV (.inr rfl) rfl) ?_
        refine AOps.nil ?_
        (repeat (first | refine AC.seq ?_ | refine AC.block ?_ | refine AC.skip ?_)); refine AC.cond rfl (fun hc => ?_) (fun hc => ?_)
        · have e : op = 32 := by simpa using hc
          (repeat (first | refine AC.seq ?_ | refine AC.block ?_ | refine AC.skip ?_))
          refine AC.region ?_
          refine AOps.step rfl rfl ?_
          refine AOp.of_run (ARun.mvV (.inl rfl) rfl) ?_
          refine AOps.step rfl rfl ?_
          refine AOp.of_run (ARun.mvV (.inl rfl) rfl) ?_
          refine AOps.step rfl rfl ?_
          refine AOp.of_run (ARun.mvV (.inl rfl) rfl) ?_
          refine AOps.step rfl rfl (AOp.call_ rfl rfl ((less0_spec false _).mono ?_))
          rintro _ _ ⟨rfl, rfl⟩
          refine AOps.step rfl rfl ?_
          refine AOp.of_run (ARun.mvV (.inr rfl) rfl) ?_
          refine AOps.step rfl rfl ?_
          refine AOp.of_run (ARun.mvV (.inr rfl) rfl) ?_
          refine AOps.nil ?_
          refine AC.ret (ARes.two rfl RV.tmp RV.tmp ⟨⟨_, by rw [condB_yes (show op ∈ condL by rw [e]; decide)]; rfl⟩, rfl⟩)
        · have n32 : op ≠ 32 := by simpa using hc
          (repeat (first | refine AC.seq ?_ | refine AC.block ?_ | refine AC.skip ?_))
          refine AC.region ?_
          refine AOps.step rfl rfl ?_
          refine AOp.of_run (ARun.eql rfl rfl rfl) ?_
          refine AOps.step rfl rfl ?_
          refine AOp.of_run (ARun.mvV (.inr rfl) rfl) ?_
          refine AOps.nil ?_
          (repeat (first | refine AC.seq ?_ | refine AC.block ?_ | refine AC.skip ?_)); refine AC.cond rfl (fun hc => ?_) (fun hc => ?_)
          · have e : op = 48 := by simpa using hc
            (repeat (first | refine AC.seq ?_ | refine AC.block ?_ | refine AC.skip ?_))
            refine AC.region ?_
            refine AOps.step rfl rfl ?_
            refine AOp.of_run (ARun.mvV (.inl rfl) rfl) ?_
            refine AOps.step rfl rfl ?_
            refine AOp.of_run (ARun.mvV (.inl rfl) rfl) ?_
            refine AOps.step rfl rfl ?_
            refine AOp.of_run (ARun.mvV (.inl rfl) rfl) ?_
            refine AOps.step rfl rfl (AOp.call_ rfl rfl ((less0_spec false _).mono ?_))
            rintro _ _ ⟨rfl, rfl⟩
            refine AOps.step rfl rfl ?_
            refine AOp.of_run (ARun.not rfl rfl) ?_
            refine AOps.step rfl rfl ?_
            refine AOp.of_run (ARun.mvV (.inr rfl) rfl) ?_
            refine AOps.step rfl rfl ?_
            refine AOp.of_run (ARun.mvV (.inr rfl) rfl) ?_
            refine AOps.nil ?_
            refine AC.ret (ARes.two rfl RV.tmp RV.tmp ⟨⟨_, by rw [condB_yes (show op ∈ condL by rw [e]; decide)]; rfl⟩, rfl⟩)
          · have n48 : op ≠ 48 := by simpa using hc
            (repeat (first | refine AC.seq ?_ | refine AC.block ?_ | refine AC.skip ?_))
            refine AC.region ?_
            refine AOps.step rfl rfl ?_
            refine AOp.of_run (ARun.eql rfl rfl rfl) ?_
            refine AOps.step rfl rfl ?_
            refine AOp.of_run (ARun.mvV (.inr rfl) rfl) ?_
            refine AOps.nil ?_
            (repeat (first | refine AC.seq ?_ | refine AC.block ?_ | refine AC.skip ?_)); refine AC.cond rfl (fun hc => ?_) (fun hc => ?_)
            · have e : op = 160 := by simpa using hc
              (repeat (first | refine AC.seq ?_ | refine AC.block ?_ | refine AC.skip ?_))
              refine AC.region ?_
              refine AOps.step rfl rfl ?_
              refine AOp.of_run (ARun.mvV (.inl rfl) rfl) ?_
              refine AOps.step rfl rfl ?_
              refine AOp.of_run (ARun.mvV (.inl rfl) rfl) ?_
              refine AOps.step rfl rfl ?_
              refine AOp.of_run (ARun.mvV (.inl rfl) rfl) ?_
              refine AOps.step rfl rfl (AOp.call_ rfl rfl ((less0_spec false _).mono ?_))
              rintro _ _ ⟨rfl, rfl⟩
              refine AOps.step rfl rfl ?_
              refine AOp.of_run (ARun.mvV (.inr rfl) rfl) ?_
              refine AOps.step rfl rfl ?_
              refine AOp.of_run (ARun.mvV (.inr rfl) rfl) ?_
              refine AOps.nil ?_
              refine AC.ret (ARes.two rfl RV.tmp RV.tmp ⟨⟨_, by rw [condB_yes (show op ∈ condL by rw [e]; decide)]; rfl⟩, rfl⟩)
            · have n160 : op ≠ 160 := by simpa using hc
              (repeat (first | refine AC.seq ?_ | refine AC.block ?_ | refine AC.skip ?_))
              refine AC.region ?_
              refine AOps.step rfl rfl ?_
              refine AOp.of_run (ARun.eql rfl rfl rfl) ?_
              refine AOps.step rfl rfl ?_
              refine AOp.of_run (ARun.mvV (.inr rfl) rfl) ?_
              refine AOps.nil ?_
              (repeat (first | refine AC.seq ?_ | refine AC.block ?_ | refine AC.skip ?_)); refine AC.cond rfl (fun hc => ?_) (fun hc => ?_)
              · have e : op = 176 := by simpa using hc
                (repeat (first | refine AC.seq ?_ | refine AC.block ?_ | refine AC.skip ?_))
                refine AC.region ?_
                refine AOps.step rfl rfl ?_
                refine AOp.of_run (ARun.mvV (.inl rfl) rfl) ?_
                refine AOps.step rfl rfl ?_
                refine AOp.of_run (ARun.mvV (.inl rfl) rfl) ?_
                refine AOps.step rfl rfl ?_
                refine AOp.of_run (ARun.mvV (.inl rfl) rfl) ?_
                refine AOps.step rfl rfl (AOp.call_ rfl rfl ((less0_spec false _).mono ?_))
                rintro _ _ ⟨rfl, rfl⟩
                refine AOps.step rfl rfl ?_
                refine AOp.of_run (ARun.not rfl rfl) ?_
                refine AOps.step rfl rfl ?_
                refine AOp.of_run (ARun.mvV (.inr rfl) rfl) ?_
                refine AOps.step rfl rfl ?_
                refine AOp.of_run (ARun.mvV (.inr rfl) rfl) ?_
                refine AOps.nil ?_
                refine AC.ret (ARes.two rfl RV.tmp RV.tmp ⟨⟨_, by rw [condB_yes (show op ∈ condL by rw [e]; decide)]; rfl⟩, rfl⟩)
              · have n176 : op ≠ 176 := by simpa using hc
                (repeat (first | refine AC.seq ?_ | refine AC.block ?_ | refine AC.skip ?_))
                refine AC.region ?_
                refine AOps.step rfl rfl ?_
                refine AOp.of_run (ARun.eql rfl rfl rfl) ?_
                refine AOps.step rfl rfl ?_
                refine AOp.of_run (ARun.mvV (.inr rfl) rfl) ?_
                refine AOps.nil ?_
                (repeat (first | refine AC.seq ?_ | refine AC.block ?_ | refine AC.skip ?_)); refine AC.cond rfl (fun hc => ?_) (fun hc => ?_)
                · have e : op = 96 := by simpa using hc
                  (repeat (first | refine AC.seq ?_ | refine AC.block ?_ | refine AC.skip ?_))
                  refine AC.region ?_
                  refine AOps.step rfl rfl ?_
                  refine AOp.of_run (ARun.mvV (.inl rfl) rfl) ?_
                  refine AOps.step rfl rfl ?_
                  refine AOp.of_run (ARun.mvV (.inl rfl) rfl) ?_
                  refine AOps.step rfl rfl ?_
                  refine AOp.of_run (ARun.mvV (.inl rfl) rfl) ?_
                  refine AOps.step rfl rfl (AOp.call_ rfl rfl ((less0_spec true _).mono ?_))
                  rintro _ _ ⟨rfl, rfl⟩
                  refine AOps.step rfl rfl ?_
                  refine AOp.of_run (ARun.mvV (.inr rfl) rfl) ?_
                  refine AOps.step rfl rfl ?_
                  refine AOp.of_run (ARun.mvV (.inr rfl) rfl) ?_
                  refine AOps.nil ?_
                  refine AC.ret (ARes.two rfl RV.tmp RV.tmp ⟨⟨_, by rw [condB_yes (show op ∈ condL by rw [e]; decide)]; rfl⟩, rfl⟩)
                · have n96 : op ≠ 96 := by simpa using hc
                  (repeat (first | refine AC.seq ?_ | refine AC.block ?_ | refine AC.skip ?_))
                  refine AC.region ?_
                  refine AOps.step rfl rfl ?_
                  refine AOp.of_run (ARun.eql rfl rfl rfl) ?_
                  refine AOps.step rfl rfl ?_
                  refine AOp.of_run (ARun.mvV (.inr rfl) rfl) ?_
                  refine AOps.nil ?_
                  (repeat (first | refine AC.seq ?_ | refine AC.block ?_ | refine AC.skip ?_)); refine AC.cond rfl (fun hc => ?_) (fun hc => ?_)
                  · have e : op = 112 := by simpa using hc
                    (repeat (first | refine AC.seq ?_ | refine AC.block ?_ | refine AC.skip ?_))
                    refine AC.region ?_
                    refine AOps.step rfl rfl ?_
                    refine AOp.of_run (ARun.mvV (.inl rfl) rfl) ?_
                    refine AOps.step rfl rfl ?_
                    refine AOp.of_run (ARun.mvV (.inl rfl) rfl) ?_
                    refine AOps.step rfl rfl ?_
                    refine AOp.of_run (ARun.mvV (.inl rfl) rfl) ?_
                    refine AOps.step rfl rfl (AOp.call_ rfl rfl ((less0_spec true _).mono ?_))
                    rintro _ _ ⟨rfl, rfl⟩
                    refine AOps.step rfl rfl ?_
                    refine AOp.of_run (ARun.not rfl rfl) ?_
                    refine AOps.step rfl rfl ?_
                    refine AOp.of_run (ARun.mvV (.inr rfl) rfl) ?_
                    refine AOps.step rfl rfl ?_
                    refine AOp.of_run (ARun.mvV (.inr rfl) rfl) ?_
                    refine AOps.nil ?_
                    refine AC.ret (ARes.two rfl RV.tmp RV.tmp ⟨⟨_, by rw [condB_yes (show op ∈ condL by rw [e]; decide)]; rfl⟩, rfl⟩)
                  · have n112 : op ≠ 112 := by simpa using hc
                    (repeat (first | refine AC.seq ?_ | refine AC.block ?_ | refine AC.skip ?_))
                    refine AC.region ?_
                    refine AOps.step rfl rfl ?_
                    refine AOp.of_run (ARun.eql rfl rfl rfl) ?_
                    refine AOps.step rfl rfl ?_
                    refine AOp.of_run (ARun.mvV (.inr rfl) rfl) ?_
                    refine AOps.nil ?_
                    (repeat (first | refine AC.seq ?_ | refine AC.block ?_ | refine AC.skip ?_)); refine AC.cond rfl (fun hc => ?_) (fun hc => ?_)
                    · have e : op = 192 := by simpa using hc
                      (repeat (first | refine AC.seq ?_ | refine AC.block ?_ | refine AC.skip ?_))
                      refine AC.region ?_
                      refine AOps.step rfl rfl ?_
                      refine AOp.of_run (ARun.mvV (.inl rfl) rfl) ?_
                      refine AOps.step rfl rfl ?_
                      refine AOp.of_run (ARun.mvV (.inl rfl) rfl) ?_
                      refine AOps.step rfl rfl ?_
                      refine AOp.of_run (ARun.mvV (.inl rfl) rfl) ?_
                      refine AOps.step rfl rfl (AOp.call_ rfl rfl ((less0_spec true _).mono ?_))
                      rintro _ _ ⟨rfl, rfl⟩
                      refine AOps.step rfl rfl ?_
                      refine AOp.of_run (ARun.mvV (.inr rfl) rfl) ?_
                      refine AOps.step rfl rfl ?_
                      refine AOp.of_run (ARun.mvV (.inr rfl) rfl) ?_
                      refine AOps.nil ?_
                      refine AC.ret (ARes.two rfl RV.tmp RV.tmp ⟨⟨_, by rw [condB_yes (show op ∈ condL by rw [e]; decide)]; rfl⟩, rfl⟩)
                    · have n192 : op ≠ 192 := by simpa using hc
                      (repeat (first | refine AC.seq ?_ | refine AC.block ?_ | refine AC.skip ?_))
                      refine AC.region ?_
                      refine AOps.step rfl rfl ?_
                      refine AOp.of_run (ARun.eql rfl rfl rfl) ?_
                      refine AOps.step rfl rfl ?_
                      refine AOp.of_run (ARun.mvV (.inr rfl) rfl) ?_
                      refine AOps.nil ?_
                      (repeat (first | refine AC.seq ?_ | refine AC.block ?_ | refine AC.skip ?_)); refine AC.cond rfl (fun hc => ?_) (fun hc => ?_)
                      · have e : op = 208 := by simpa using hc
                        (repeat (first | refine AC.seq ?_ | refine AC.block ?_ | refine AC.skip ?_))
                        refine AC.region ?_
                        refine AOps.step rfl rfl ?_
                        refine AOp.of_run (ARun.mvV (.inl rfl) rfl) ?_
                        refine AOps.step rfl rfl ?_
                        refine AOp.of_run (ARun.mvV (.inl rfl) rfl) ?_
                        refine AOps.step rfl rfl ?_
                        refine AOp.of_run (ARun.mvV (.inl rfl) rfl) ?_
                        refine AOps.step rfl rfl (AOp.call_ rfl rfl ((less0_spec true _).mono ?_))
                        rintro _ _ ⟨rfl, rfl⟩
                        refine AOps.step rfl rfl ?_
                        refine AOp.of_run (ARun.not rfl rfl) ?_
                        refine AOps.step rfl rfl ?_
                        refine AOp.of_run (ARun.mvV (.inr rfl) rfl) ?_
                        refine AOps.step rfl rfl ?_
                        refine AOp.of_run (ARun.mvV (.inr rfl) rfl) ?_
                        refine AOps.nil ?_
                        refine AC.ret (ARes.two rfl RV.tmp RV.tmp ⟨⟨_, by rw [condB_yes (show op ∈ condL by rw [e]; decide)]; rfl⟩, rfl⟩)
                      · have n208 : op ≠ 208 := by simpa using hc
                        (repeat (first | refine AC.seq ?_ | refine AC.block ?_ | refine AC.skip ?_ | refine AC.exit ?_))
                        (repeat (first | refine AC.seq ?_ | refine AC.block ?_ | refine AC.skip ?_))
                        refine AC.region ?_
                        refine AOps.step rfl rfl ?_
                        refine AOp.of_run (ARun.mvV (.inr rfl) rfl) ?_
                        refine AOps.step rfl rfl ?_
                        refine AOp.of_run (ARun.mvV (.inr rfl) rfl) ?_
                        refine AOps.nil ?_
                        refine AC.ret (ARes.two rfl RV.tmp RV.tmp ⟨⟨_, by rw [show condB op = false from decide_eq_false (by simp [condL, n16, n80, n64, n32, n48, n160, n176, n96, n112, n192, n208])]; rfl⟩, rfl⟩)
end Go.Proofs.Ytilanageangegaa

/- Walks of packages word and ref01 (3): Alu. MADE BY wip/gen_alu.py. -/
set_option linter.unusedVariables false
set_option linter.unusedSimpArgs false
namespace Go.Proofs.Ytilanageangegaa
open Go.Ab

def lowF (x : Int) (w : Bool) : Int := if w then x else IntKind.u64.wrap (IntKind.u32.wrap x)
def shN (y : Int) (w : Bool) : Int := if w then iand .u64 y 63 else iand .u64 y 31
def shiftF (op x y : Int) (w : Bool) : Int :=
  if op = 96 then IntKind.u64.wrap (x * 2 ^ min (shN y w).toNat IntKind.u64.bits) else
  if op = 112 then x.fdiv (2 ^ min (shN y w).toNat IntKind.u64.bits) else
  if w then IntKind.u64.wrap ((IntKind.i64.wrap x).fdiv (2 ^ min (shN y w).toNat IntKind.i64.bits)) else
  IntKind.u64.wrap (IntKind.u32.wrap ((IntKind.i32.wrap (IntKind.u32.wrap x)).fdiv (2 ^ min (shN y w).toNat IntKind.i32.bits)))
def plainF (op x y : Int) : Option Int :=
  if op = 0 then some (IntKind.u64.wrap (x + y)) else if op = 16 then some (IntKind.u64.wrap (x - y)) else if op = 32 then some (IntKind.u64.wrap (x * y)) else
  if op = 64 then some (ior .u64 x y) else if op = 80 then some (iand .u64 x y) else if op = 160 then some (ixor .u64 x y) else
  if op = 128 then some (IntKind.u64.wrap (0 - x)) else if op = 176 then some y else none
def aluF (op x y : Int) (w : Bool) : Option Int :=
  if op = 48 then some (if lowF y w = 0 then 0 else IntKind.u64.wrap ((lowF x w).tdiv (lowF y w))) else
  if op = 144 then some (if lowF y w = 0 then lowF x w else (lowF x w).tmod (lowF y w)) else
  if op = 96 ∨ op = 112 ∨ op = 192 then some (lowF (shiftF op (lowF x w) (lowF y w) w) w) else
  (plainF op (lowF x w) (lowF y w)).map fun r => lowF r w
def eOU (r : Option Int) : AVal := .tup [eU (r.getD 0), eB r.isSome]
theorem wrap_u64_nonneg (z : Int) : 0 ≤ IntKind.u64.wrap z := by rw [IntKind.wrap_u64]; omega
theorem shN_nonneg (y : Int) (w : Bool) : 0 ≤ shN y w := by unfold shN iand; split <;> exact wrap_u64_nonneg _

set_option maxRecDepth 10000 in
theorem lowG_spec (a : Int) (w : Bool) (h : AHeap) : Sp Try.prog 115 [eU a, eB w] h (fun r h' => r = eU (lowF a w) ∧ h' = h) := by
  refine Sp.of Try.func115 rfl rfl (by show 2 ≤ 10; decide) ?_
  (repeat (first | refine AC.seq ?_ | refine AC.block ?_ | refine AC.skip ?_))
  refine AC.region ?_
  refine AOps.step rfl rfl ?_
  refine AOp.of_run (ARun.mvV (.inr rfl) rfl) ?_
  refine AOps.nil ?_
  (repeat (first | refine AC.seq ?_ | refine AC.block ?_ | refine AC.skip ?_))
  refine AC.region ?_
  refine AOps.step rfl rfl ?_
  refine AOp.of_run (ARun.mvV (.inl rfl) rfl) ?_
  refine AOps.nil ?_
  (repeat (first | refine AC.seq ?_ | refine AC.block ?_ | refine AC.skip ?_)); refine AC.cond rfl (fun hc => ?_) (fun hc => ?_)
  · (repeat (first | refine AC.seq ?_ | refine AC.block ?_ | refine AC.skip ?_))
    refine AC.region ?_
    refine AOps.step rfl rfl ?_
    refine AOp.of_run (ARun.mvV (.inl rfl) rfl) ?_
    refine AOps.step rfl rfl ?_
    refine AOp.of_run (ARun.mvV (.inr rfl) rfl) ?_
    refine AOps.nil ?_
    refine AC.ret (ARes.one rfl (RV.V rfl) ⟨?_, rfl⟩)
    rw [lowF, hc]; rfl
  · (repeat (first | refine AC.seq ?_ | refine AC.block ?_ | refine AC.skip ?_ | refine AC.exit ?_))
    (repeat (first | refine AC.seq ?_ | refine AC.block ?_ | refine AC.skip ?_))
    refine AC.region ?_
    refine AOps.step rfl rfl ?_
    refine AOp.of_run (ARun.mvV (.inl rfl) rfl) ?_
    refine AOps.step rfl rfl ?_
    refine AOp.of_run (ARun.convI rfl rfl) ?_
    refine AOps.step rfl rfl ?_
    refine AOp.of_run (ARun.convI rfl rfl) ?_
    refine AOps.step rfl rfl ?_
    refine AOp.of_run (ARun.mvV (.inr rfl) rfl) ?_
    refine AOps.nil ?_
    refine AC.ret (ARes.one rfl (RV.V rfl) ⟨?_, rfl⟩)
    rw [lowF, hc]; rfl

set_option maxRecDepth 10000 in
theorem shift_spec (op x y : Int) (w : Bool) (h : AHeap) : Sp Try.prog 134 [eI op, eU x, eU y, eB w] h (fun r h' => r = eU (shiftF op x y w) ∧ h' = h) := by
  refine Sp.of Try.func134 rfl rfl (by show 4 ≤ 42; decide) ?_
  (repeat (first | refine AC.seq ?_ | refine AC.block ?_ | refine AC.skip ?_))
  refine AC.region ?_
  refine AOps.step rfl rfl ?_
  refine AOp.of_run (ARun.mvV (.inr rfl) rfl) ?_
  refine AOps.nil ?_
  (repeat (first | refine AC.seq ?_ | refine AC.block ?_ | refine AC.skip ?_))
  refine AC.region ?_
  refine AOps.step rfl rfl ?_
  refine AOp.of_run (ARun.mvV (.inl rfl) rfl) ?_
  refine AOps.step rfl rfl ?_
  refine AOp.of_run (ARun.and rfl rfl rfl) ?_
  refine AOps.step rfl rfl ?_
  refine AOp.of_run (ARun.mvV (.inr rfl) rfl) ?_
  refine AOps.nil ?_
  (repeat (first | refine AC.seq ?_ | refine AC.block ?_ | refine AC.skip ?_))
  refine AC.region ?_
  refine AOps.step rfl rfl ?_
  refine AOp.of_run (ARun.mvV (.inl rfl) rfl) ?_
  refine AOps.step rfl rfl ?_
  refine AOp.of_run (ARun.not rfl rfl) ?_
  refine AOps.nil ?_
  (repeat (first | refine AC.seq ?_ | refine AC.block ?_ | refine AC.skip ?_ | refine AC.exit ?_))
  refine AC.mono (Q := fun ex τ h2 => ex = .normal ∧ h2 = h ∧ Slots τ [(0, eI op), (1, eU x), (2, eU y), (3, eB w), (9, eU (shN y w))]) ?_ ?_
  · (repeat (first | refine AC.seq ?_ | refine AC.block ?_ | refine AC.skip ?_)); refine AC.cond rfl (fun hc => ?_) (fun hc => ?_)
    · have hw : w = false := by simpa using hc
      subst hw
      (repeat (first | refine AC.seq ?_ | refine AC.block ?_ | refine AC.skip ?_))
      refine AC.region ?_
      refine AOps.step rfl rfl ?_
      refine AOp.of_run (ARun.mvV (.inl rfl) rfl) ?_
      refine AOps.step rfl rfl ?_
      refine AOp.of_run (ARun.and rfl rfl rfl) ?_
      refine AOps.step rfl rfl ?_
      refine AOp.of_run (ARun.mvV (.inr rfl) rfl) ?_
      refine AOps.nil ?_
      exact ⟨rfl, rfl, rfl, rfl, rfl, rfl, rfl, trivial⟩
    · have hw : w = true := by simpa using hc
      subst hw
      (repeat (first | refine AC.seq ?_ | refine AC.block ?_ | refine AC.skip ?_ | refine AC.exit ?_))
      exact ⟨rfl, rfl, rfl, rfl, rfl, rfl, rfl, trivial⟩
  rintro _ τ _ ⟨rfl, rfl, hs⟩
  obtain ⟨t0, rfl⟩ := hs.open_
  have h0 := shN_nonneg y w
  have hn : shN y w = shN y w := rfl
  unfold shiftF
  generalize shN y w = n at *
  (repeat (first | refine AC.seq ?_ | refine AC.block ?_ | refine AC.skip ?_ | refine AC.exit ?_))
  (repeat (first | refine AC.seq ?_ | refine AC.block ?_ | refine AC.skip ?_))
  refine AC.region ?_
  refine AOps.step rfl rfl ?_
  refine AOp.of_run (ARun.mvV (.inl rfl) rfl) ?_
  refine AOps.step rfl rfl ?_
  refine AOp.of_run (ARun.eql rfl rfl rfl) ?_
  refine AOps.step rfl rfl ?_
  refine AOp.of_run (ARun.mvV (.inr rfl) rfl) ?_
  refine AOps.nil ?_
  (repeat (first | refine AC.seq ?_ | refine AC.block ?_ | refine AC.skip ?_)); refine AC.cond rfl (fun hc => ?_) (fun hc => ?_)
  · have e : op = 96 := by simpa using hc
    (repeat (first | refine AC.seq ?_ | refine AC.block ?_ | refine AC.skip ?_))
    refine AC.region ?_
    refine AOps.step rfl rfl ?_
    refine AOp.of_run (ARun.mvV (.inl rfl) rfl) ?_
    refine AOps.step rfl rfl ?_
    refine AOp.of_run (ARun.mvV (.inl rfl) rfl) ?_
    refine AOps.step rfl rfl ?_
    refine AOp.of_run (ARun.shl rfl rfl rfl (by omega)) ?_
    refine AOps.step rfl rfl ?_
    refine AOp.of_run (ARun.mvV (.inr rfl) rfl) ?_
    refine AOps.nil ?_
    refine AC.ret (ARes.one rfl (RV.V rfl) ⟨?_, rfl⟩)
    rw [if_pos e]; rfl
  · have e : op ≠ 96 := by simpa using hc
    rw [if_neg e]
    (repeat (first | refine AC.seq ?_ | refine AC.block ?_ | refine AC.skip ?_))
    refine AC.region ?_
    refine AOps.step rfl rfl ?_
    refine AOp.of_run (ARun.mvV (.inl rfl) rfl) ?_
    refine AOps.step rfl rfl ?_
    refine AOp.of_run (ARun.eql rfl rfl rfl) ?_
    refine AOps.step rfl rfl ?_
    refine AOp.of_run (ARun.mvV (.inr rfl) rfl) ?_
    refine AOps.nil ?_
    (repeat (first | refine AC.seq ?_ | refine AC.block ?_ | refine AC.skip ?_)); refine AC.cond rfl (fun hc => ?_) (fun hc => ?_)
    · have e2 : op = 112 := by simpa using hc
      (repeat (first | refine AC.seq ?_ | refine AC.block ?_ | refine AC.skip ?_))
      refine AC.region ?_
      refine AOps.step rfl rfl ?_
      refine AOp.of_run (ARun.mvV (.inl rfl) rfl) ?_
      refine AOps.step rfl rfl ?_
      refine AOp.of_run (ARun.mvV (.inl rfl) rfl) ?_
      refine AOps.step rfl rfl ?_
      refine AOp.of_run (ARun.shr rfl rfl rfl (by omega)) ?_
      refine AOps.step rfl rfl ?_
      refine AOp.of_run (ARun.mvV (.inr rfl) rfl) ?_
      refine AOps.nil ?_
      refine AC.ret (ARes.one rfl (RV.V rfl) ⟨?_, rfl⟩)
      rw [if_pos e2]; rfl
    · have e2 : op ≠ 112 := by simpa using hc
      rw [if_neg e2]
      (repeat (first | refine AC.seq ?_ | refine AC.block ?_ | refine AC.skip ?_))
      refine AC.region ?_
      refine AOps.step rfl rfl ?_
      refine AOp.of_run (ARun.mvV (.inl rfl) rfl) ?_
      refine AOps.step rfl rfl ?_
      refine AOp.of_run (ARun.mvV (.inr rfl) rfl) ?_
      refine AOps.nil ?_
      (repeat (first | refine AC.seq ?_ | refine AC.block ?_ | refine AC.skip ?_)); refine AC.cond rfl (fun hc => ?_) (fun hc => ?_)
      · (repeat (first | refine AC.seq ?_ | refine AC.block ?_ | refine AC.skip ?_))
        refine AC.region ?_
        refine AOps.step rfl rfl ?_
        refine AOp.of_run (ARun.mvV (.inl rfl) rfl) ?_
        refine AOps.step rfl rfl ?_
        refine AOp.of_run (ARun.convI rfl rfl) ?_
        refine AOps.step rfl rfl ?_
        refine AOp.of_run (ARun.mvV (.inl rfl) rfl) ?_
        refine AOps.step rfl rfl ?_
        refine AOp.of_run (ARun.shr rfl rfl rfl (by omega)) ?_
        refine AOps.step rfl rfl ?_
        refine AOp.of_run (ARun.convI rfl rfl) ?_
        refine AOps.step rfl rfl ?_
        refine AOp.of_run (ARun.mvV (.inr rfl) rfl) ?_
        refine AOps.nil ?_
        refine AC.ret (ARes.one rfl (RV.V rfl) ⟨?_, rfl⟩)
        rw [if_pos hc]; rfl
      · (repeat (first | refine AC.seq ?_ | refine AC.block ?_ | refine AC.skip ?_ | refine AC.exit ?_))
        (repeat (first | refine AC.seq ?_ | refine AC.block ?_ | refine AC.skip ?_))
        refine AC.region ?_
        refine AOps.step rfl rfl ?_
        refine AOp.of_run (ARun.mvV (.inl rfl) rfl) ?_
        refine AOps.step rfl rfl ?_
        refine AOp.of_run (ARun.convI rfl rfl) ?_
        refine AOps.step rfl rfl ?_
        refine AOp.of_run (ARun.convI rfl rfl) ?_
        refine AOps.step rfl rfl ?_
        refine AOp.of_run (ARun.mvV (.inl rfl) rfl) ?_
        refine AOps.step rfl rfl ?_
        refine AOp.of_run (ARun.shr rfl rfl rfl (by omega)) ?_
        refine AOps.step rfl rfl ?_
        refine AOp.of_run (ARun.convI rfl rfl) ?_
        refine AOps.step rfl rfl ?_
        refine AOp.of_run (ARun.convI rfl rfl) ?_
        refine AOps.step rfl rfl ?_
        refine AOp.of_run (ARun.mvV (.inr rfl) rfl) ?_
        refine AOps.nil ?_
        refine AC.ret (ARes.one rfl (RV.V rfl) ⟨?_, rfl⟩)
        rw [if_neg (by rw [hc]; decide)]; rfl

set_option maxRecDepth 10000 in
theorem plain_spec (op x y : Int) (h : AHeap) : Sp Try.prog 135 [eI op, eU x, eU y] h (fun r h' => r = eOU (plainF op x y) ∧ h' = h) := by
  refine Sp.of Try.func135 rfl rfl (by show 3 ≤ 46; decide) ?_
  (repeat (first | refine AC.seq ?_ | refine AC.block ?_ | refine AC.skip ?_))
  refine AC.region ?_
  refine AOps.step rfl rfl ?_
  refine AOp.of_run (ARun.mvV (.inr rfl) rfl) ?_
  refine AOps.step rfl rfl ?_
  refine AOp.of_run (ARun.mvV (.inr rfl) rfl) ?_
  refine AOps.nil ?_
  (repeat (first | refine AC.seq ?_ | refine AC.block ?_ | refine AC.skip ?_))
  refine AC.region ?_
  refine AOps.step rfl rfl ?_
  refine AOp.of_run (ARun.mvV (.inl rfl) rfl) ?_
  refine AOps.nil ?_
  unfold plainF
  (repeat (first | refine AC.seq ?_ | refine AC.block ?_ | refine AC.skip ?_ | refine AC.exit ?_))
  (repeat (first | refine AC.seq ?_ | refine AC.block ?_ | refine AC.skip ?_))
  refine AC.region ?_
  refine AOps.step rfl rfl ?_
  refine AOp.of_run (ARun.eql rfl rfl rfl) ?_
  refine AOps.step rfl rfl ?_
  refine AOp.of_run (ARun.mvV (.inr rfl) rfl) ?_
  refine AOps.nil ?_
  (repeat (first | refine AC.seq ?_ | refine AC.block ?_ | refine AC.skip ?_)); refine AC.cond rfl (fun hc => ?_) (fun hc => ?_)
  · have e : op = 0 := by simpa using hc
    (repeat (first | refine AC.seq ?_ | refine AC.block ?_ | refine AC.skip ?_))
    refine AC.region ?_
    refine AOps.step rfl rfl ?_
    refine AOp.of_run (ARun.mvV (.inl rfl) rfl) ?_
    refine AOps.step rfl rfl ?_
    refine AOp.of_run (ARun.mvV (.inl rfl) rfl) ?_
    refine AOps.step rfl rfl ?_
    refine AOp.of_run (ARun.add rfl rfl rfl) ?_
    refine AOps.step rfl rfl ?_
    refine AOp.of_run (ARun.mvV (.inr rfl) rfl) ?_
    refine AOps.step rfl rfl ?_
    refine AOp.of_run (ARun.mvV (.inr rfl) rfl) ?_
    refine AOps.nil ?_
    refine AC.ret (ARes.two rfl (RV.V rfl) (RV.V rfl) ⟨?_, rfl⟩)
    rw [if_pos e]; rfl
  · have e : op ≠ 0 := by simpa using hc
    rw [if_neg e]
    (repeat (first | refine AC.seq ?_ | refine AC.block ?_ | refine AC.skip ?_ | refine AC.exit ?_))
    (repeat (first | refine AC.seq ?_ | refine AC.block ?_ | refine AC.skip ?_))
    refine AC.region ?_
    refine AOps.step rfl rfl ?_
    refine AOp.of_run (ARun.eql rfl rfl rfl) ?_
    refine AOps.step rfl rfl ?_
    refine AOp.of_run (ARun.mvV (.inr rfl) rfl) ?_
    refine AOps.nil ?_
    (repeat (first | refine AC.seq ?_ | refine AC.block ?_ | refine AC.skip ?_)); refine AC.cond rfl (fun hc => ?_) (fun hc => ?_)
    · have e : op = 16 := by simpa using hc
      (repeat (first | refine AC.seq ?_ | refine AC.block ?_ | refine AC.skip ?_))
      refine AC.region ?_
      refine AOps.step rfl rfl ?_
      refine AOp.of_run (ARun.mvV (.inl rfl) rfl) ?_
      refine AOps.step rfl rfl ?_
      refine AOp.of_run (ARun.mvV (.inl rfl) rfl) ?_
      refine AOps.step rfl rfl ?_
      refine AOp.of_run (ARun.sub rfl rfl rfl) ?_
      refine AOps.step rfl rfl ?_
      refine AOp.of_run (ARun.mvV (.inr rfl) rfl) ?_
      refine AOps.step rfl rfl ?_
      refine AOp.of_run (ARun.mvV (.inr rfl) rfl) ?_
      refine AOps.nil ?_
      refine AC.ret (ARes.two rfl (RV.V rfl) (RV.V rfl) ⟨?_, rfl⟩)
      rw [if_pos e]; rfl
    · have e : op ≠ 16 := by simpa using hc
      rw [if_neg e]
      (repeat (first | refine AC.seq ?_ | refine AC.block ?_ | refine AC.skip ?_ | refine AC.exit ?_))
      (repeat (first | refine AC.seq ?_ | refine AC.block ?_ | refine AC.skip ?_))
      refine AC.region ?_
      refine AOps.step rfl rfl ?_
      refine AOp.of_run (ARun.eql rfl rfl rfl) ?_
      refine AOps.step rfl rfl ?_
      refine AOp.of_run (ARun.mvV (.inr rfl) rfl) ?_
      refine AOps.nil ?_
      (repeat (first | refine AC.seq ?_ | refine AC.block ?_ | refine AC.skip ?_)); refine AC.cond rfl (fun hc => ?_) (fun hc => ?_)
      · have e : op = 32 := by simpa using hc
        (repeat (first | refine AC.seq ?_ | refine AC.block ?_ | refine AC.skip ?_))
        refine AC.region ?_
        refine AOps.step rfl rfl ?_
        refine AOp.of_run (ARun.mvV (.inl rfl) rfl) ?_
        refine AOps.step rfl rfl ?_
        refine AOp.of_run (ARun.mvV (.inl rfl) rfl) ?_
        refine AOps.step rfl rfl ?_
        refine AOp.of_run (ARun.mul rfl rfl rfl) ?_
        refine AOps.step rfl rfl ?_
        refine AOp.of_run (ARun.mvV (.inr rfl) rfl) ?_
        refine AOps.step rfl rfl ?_
        refine AOp.of_run (ARun.mvV (.inr rfl) rfl) ?_
        refine AOps.nil ?_
        refine AC.ret (ARes.two rfl (RV.V rfl) (RV.V rfl) ⟨?_, rfl⟩)
        rw [if_pos e]; rfl
      · have e : op ≠ 32 := by simpa using hc
        rw [if_neg e]
        (repeat (first | refine AC.seq ?_ | refine AC.block ?_ | refine AC.skip ?_ | refine AC.exit ?_))
        (repeat (first | refine AC.seq ?_ | refine AC.block ?_ | refine AC.skip ?_))
        refine AC.region ?_
        refine AOps.step rfl rfl ?_
        refine AOp.of_run (ARun.eql rfl rfl rfl) ?_
        refine AOps.step rfl rfl ?_
        refine AOp.of_run (ARun.mvV (.inr rfl) rfl) ?_
        refine AOps.nil ?_
        (repeat (first | refine AC.seq ?_ | refine AC.block ?_ | refine AC.skip ?_)); refine AC.cond rfl (fun hc => ?_) (fun hc => ?_)
        · have e : op = 64 := by simpa using hc
          (repeat (first | refine AC.seq ?_ | refine AC.block ?_ | refine AC.skip ?_))
          refine AC.region ?_
          refine AOps.step rfl rfl ?_
          refine AOp.of_run (ARun.mvV (.inl rfl) rfl) ?_
          refine AOps.step rfl rfl ?_
          refine AOp.of_run (ARun.mvV (.inl rfl) rfl) ?_
          refine AOps.step rfl rfl ?_
          refine AOp.of_run (ARun.or rfl rfl rfl) ?_
          refine AOps.step rfl rfl ?_
          refine AOp.of_run (ARun.mvV (.inr rfl) rfl) ?_
          refine AOps.step rfl rfl ?_
          refine AOp.of_run (ARun.mvV (.inr rfl) rfl) ?_
          refine AOps.nil ?_
          refine AC.ret (ARes.two rfl (RV.V rfl) (RV.V rfl) ⟨?_, rfl⟩)
          rw [if_pos e]; rfl
        · have e : op ≠ 64 := by simpa using hc
          rw [if_neg e]
          (repeat (first | refine AC.seq ?_ | refine AC.block ?_ | refine AC.skip ?_ | refine AC.exit ?_))
          (repeat (first | refine AC.seq ?_ | refine AC.block ?_ | refine AC.skip ?_))
          refine AC.region ?_
          refine AOps.step rfl rfl ?_
          refine AOp.of_run (ARun.eql rfl rfl rfl) ?_
          refine AOps.step rfl rfl ?_
          refine AOp.of_run (ARun.mvV (.inr rfl) rfl) ?_
          refine AOps.nil ?_
          (repeat (first | refine AC.seq ?_ | refine AC.block ?_ | refine AC.skip ?_)); refine AC.cond rfl (fun hc => ?_) (fun hc => ?_)
          · have e : op = 80 := by simpa using hc
            (repeat (first | refine AC.seq ?_ | refine AC.block ?_ | refine AC.skip ?_))
            refine AC.region ?_
            refine AOps.step rfl rfl ?_
            refine AOp.of_run (ARun.mvV (.inl rfl) rfl) ?_
            refine AOps.step rfl rfl ?_
            refine AOp.of_run (ARun.mvV (.inl rfl) rfl) ?_
            refine AOps.step rfl rfl ?_
            refine AOp.of_run (ARun.and rfl rfl rfl) ?_
            refine AOps.step rfl rfl ?_
            refine AOp.of_run (ARun.mvV (.inr rfl) rfl) ?_
            refine AOps.step rfl rfl ?_
            refine AOp.of_run (ARun.mvV (.inr rfl) rfl) ?_
            refine AOps.nil ?_
            refine AC.ret (ARes.two rfl (RV.V rfl) (RV.V rfl) ⟨?_, rfl⟩)
            rw [if_pos e]; rfl
          · have e : op ≠ 80 := by simpa using hc
            rw [if_neg e]
            (repeat (first | refine AC.seq ?_ | refine AC.block ?_ | refine AC.skip ?_ | refine AC.exit ?_))
            (repeat (first | refine AC.seq ?_ | refine AC.block ?_ | refine AC.skip ?_))
            refine AC.region ?_
            refine AOps.step rfl rfl ?_
            refine AOp.of_run (ARun.eql rfl rfl rfl) ?_
            refine AOps.step rfl rfl ?_
            refine AOp.of_run (ARun.mvV (.inr rfl) rfl) ?_
            refine AOps.nil ?_
            (repeat (first | refine AC.seq ?_ | refine AC.block ?_ | refine AC.skip ?_)); refine AC.cond rfl (fun hc => ?_) (fun hc => ?_)
            · have e : op = 160 := by simpa using hc
              (repeat (first | refine AC.seq ?_ | refine AC.block ?_ | refine AC.skip ?_))
              refine AC.region ?_
              refine AOps.step rfl rfl ?_
              refine AOp.of_run (ARun.mvV (.inl rfl) rfl) ?_
              refine AOps.step rfl rfl ?_
              refine AOp.of_run (ARun.mvV (.inl rfl) rfl) ?_
              refine AOps.step rfl rfl ?_
              refine AOp.of_run (ARun.xor rfl rfl rfl) ?_
              refine AOps.step rfl rfl ?_
              refine AOp.of_run (ARun.mvV (.inr rfl) rfl) ?_
              refine AOps.step rfl rfl ?_
              refine AOp.of_run (ARun.mvV (.inr rfl) rfl) ?_
              refine AOps.nil ?_
              refine AC.ret (ARes.two rfl (RV.V rfl) (RV.V rfl) ⟨?_, rfl⟩)
              rw [if_pos e]; rfl
            · have e : op ≠ 160 := by simpa using hc
              rw [if_neg e]
              (repeat (first | refine AC.seq ?_ | refine AC.block ?_ | refine AC.skip ?_ | refine AC.exit ?_))
              (repeat (first | refine AC.seq ?_ | refine AC.block ?_ | refine AC.skip ?_))
              refine AC.region ?_
              refine AOps.step rfl rfl ?_
              refine AOp.of_run (ARun.eql rfl rfl rfl) ?_
              refine AOps.step rfl rfl ?_
              refine AOp.of_run (ARun.mvV (.inr rfl) rfl) ?_
              refine AOps.nil ?_
              (repeat (first | refine AC.seq ?_ | refine AC.block ?_ | refine AC.skip ?_)); refine AC.cond rfl (fun hc => ?_) (fun hc => ?_)
              · have e : op = 128 := by simpa using hc
                (repeat (first | refine AC.seq ?_ | refine AC.block ?_ | refine AC.skip ?_))
                refine AC.region ?_
                refine AOps.step rfl rfl ?_
                refine AOp.of_run (ARun.mvV (.inl rfl) rfl) ?_
                refine AOps.step rfl rfl ?_
                refine AOp.of_run (ARun.neg rfl rfl) ?_
                refine AOps.step rfl rfl ?_
                refine AOp.of_run (ARun.mvV (.inr rfl) rfl) ?_
                refine AOps.step rfl rfl ?_
                refine AOp.of_run (ARun.mvV (.inr rfl) rfl) ?_
                refine AOps.nil ?_
                refine AC.ret (ARes.two rfl (RV.V rfl) (RV.V rfl) ⟨?_, rfl⟩)
                rw [if_pos e]; rfl
              · have e : op ≠ 128 := by simpa using hc
                rw [if_neg e]
                (repeat (first | refine AC.seq ?_ | refine AC.block ?_ | refine AC.skip ?_ | refine AC.exit ?_))
                (repeat (first | refine AC.seq ?_ | refine AC.block ?_ | refine AC.skip ?_))
                refine AC.region ?_
                refine AOps.step rfl rfl ?_
                refine AOp.of_run (ARun.eql rfl rfl rfl) ?_
                refine AOps.step rfl rfl ?_
                refine AOp.of_run (ARun.mvV (.inr rfl) rfl) ?_
                refine AOps.nil ?_
                (repeat (first | refine AC.seq ?_ | refine AC.block ?_ | refine AC.skip ?_)); refine AC.cond rfl (fun hc => ?_) (fun hc => ?_)
                · have e : op = 176 := by simpa using hc
                  (repeat (first | refine AC.seq ?_ | refine AC.block ?_ | refine AC.skip ?_))
                  refine AC.region ?_
                  refine AOps.step rfl rfl ?_
                  refine AOp.of_run (ARun.mvV (.inl rfl) rfl) ?_
                  refine AOps.step rfl rfl ?_
                  refine AOp.of_run (ARun.mvV (.inr rfl) rfl) ?_
                  refine AOps.step rfl rfl ?_
                  refine AOp.of_run (ARun.mvV (.inr rfl) rfl) ?_
                  refine AOps.nil ?_
                  refine AC.ret (ARes.two rfl (RV.V rfl) (RV.V rfl) ⟨?_, rfl⟩)
                  rw [if_pos e]; rfl
                · have e : op ≠ 176 := by simpa using hc
                  rw [if_neg e]
                  (repeat (first | refine AC.seq ?_ | refine AC.block ?_ | refine AC.skip ?_ | refine AC.exit ?_))
                  (repeat (first | refine AC.seq ?_ | refine AC.block ?_ | refine AC.skip ?_))
                  refine AC.region ?_
                  refine AOps.step rfl rfl ?_
                  refine AOp.of_run (ARun.mvV (.inr rfl) rfl) ?_
                  refine AOps.step rfl rfl ?_
                  refine AOp.of_run (ARun.mvV (.inr rfl) rfl) ?_
                  refine AOps.nil ?_
                  refine AC.ret (ARes.two rfl (RV.V rfl) (RV.V rfl) ⟨rfl, rfl⟩)

set_option maxRecDepth 10000 in
theorem Alu_spec (op x y : Int) (w : Bool) (h : AHeap) : Sp Try.prog 112 [eI op, eU x, eU y, eB w] h (fun r h' => r = eOU (aluF op x y w) ∧ h' = h) := by
  refine Sp.of Try.func112 rfl rfl (by show 4 ≤ 56; decide) ?_
  (repeat (first | refine AC.seq ?_ | refine AC.block ?_ | refine AC.skip ?_))
  refine AC.region ?_
  refine AOps.step rfl rfl ?_
  refine AOp.of_run (ARun.mvV (.inr rfl) rfl) ?_
  refine AOps.step rfl rfl ?_
  refine AOp.of_run (ARun.mvV (.inr rfl) rfl) ?_
  refine AOps.nil ?_
  (repeat (first | refine AC.seq ?_ | refine AC.block ?_ | refine AC.skip ?_))
  refine AC.region ?_
  refine AOps.step rfl rfl ?_
  refine AOp.of_run (ARun.mvV (.inl rfl) rfl) ?_
  refine AOps.step rfl rfl ?_
  refine AOp.of_run (ARun.mvV (.inl rfl) rfl) ?_
  refine AOps.step rfl rfl (AOp.call_ rfl rfl ((lowG_spec x w _).mono ?_))
  rintro _ _ ⟨rfl, rfl⟩
  refine AOps.step rfl rfl ?_
  refine AOp.of_run (ARun.mvV (.inl rfl) rfl) ?_
  refine AOps.step rfl rfl ?_
  refine AOp.of_run (ARun.mvV (.inl rfl) rfl) ?_
  refine AOps.step rfl rfl (AOp.call_ rfl rfl ((lowG_spec y w _).mono ?_))
  rintro _ _ ⟨rfl, rfl⟩
  refine AOps.step rfl rfl ?_
  refine AOp.of_run (ARun.mvV (.inr rfl) rfl) ?_
  refine AOps.step rfl rfl ?_
  refine AOp.of_run (ARun.mvV (.inr rfl) rfl) ?_
  refine AOps.nil ?_
  unfold aluF
  generalize lowF x w = x at *
  generalize lowF y w = y at *
  (repeat (first | refine AC.seq ?_ | refine AC.block ?_ | refine AC.skip ?_))
  refine AC.region ?_
  refine AOps.step rfl rfl ?_
  refine AOp.of_run (ARun.mvV (.inl rfl) rfl) ?_
  refine AOps.nil ?_
  (repeat (first | refine AC.seq ?_ | refine AC.block ?_ | refine AC.skip ?_ | refine AC.exit ?_))
  (repeat (first | refine AC.seq ?_ | refine AC.block ?_ | refine AC.skip ?_))
  refine AC.region ?_
  refine AOps.step rfl rfl ?_
  refine AOp.of_run (ARun.eql rfl rfl rfl) ?_
  refine AOps.step rfl rfl ?_
  refine AOp.of_run (ARun.mvV (.inr rfl) rfl) ?_
  refine AOps.nil ?_
  (repeat (first | refine AC.seq ?_ | refine AC.block ?_ | refine AC.skip ?_)); refine AC.cond rfl (fun hc => ?_) (fun hc => ?_)
  · have e : op = 48 := by simpa using hc
    rw [if_pos e]
    (repeat (first | refine AC.seq ?_ | refine AC.block ?_ | refine AC.skip ?_))
    refine AC.region ?_
    refine AOps.step rfl rfl ?_
    refine AOp.of_run (ARun.mvV (.inl rfl) rfl) ?_
    refine AOps.step rfl rfl ?_
    refine AOp.of_run (ARun.eql rfl rfl rfl) ?_
    refine AOps.nil ?_
    (repeat (first | refine AC.seq ?_ | refine AC.block ?_ | refine AC.skip ?_)); refine AC.cond rfl (fun hc => ?_) (fun hc => ?_)
    · have e2 : y = 0 := by simpa using hc
      (repeat (first | refine AC.seq ?_ | refine AC.block ?_ | refine AC.skip ?_))
      refine AC.region ?_
      refine AOps.step rfl rfl ?_
      refine AOp.of_run (ARun.mvV (.inr rfl) rfl) ?_
      refine AOps.step rfl rfl ?_
      refine AOp.of_run (ARun.mvV (.inr rfl) rfl) ?_
      refine AOps.nil ?_
      refine AC.ret (ARes.two rfl (RV.V rfl) (RV.V rfl) ⟨?_, rfl⟩)
      rw [if_pos e2]; rfl
    · have e2 : y ≠ 0 := by simpa using hc
      (repeat (first | refine AC.seq ?_ | refine AC.block ?_ | refine AC.skip ?_ | refine AC.exit ?_))
      (repeat (first | refine AC.seq ?_ | refine AC.block ?_ | refine AC.skip ?_))
      refine AC.region ?_
      refine AOps.step rfl rfl ?_
      refine AOp.of_run (ARun.mvV (.inl rfl) rfl) ?_
      refine AOps.step rfl rfl ?_
      refine AOp.of_run (ARun.mvV (.inl rfl) rfl) ?_
      refine AOps.step rfl rfl ?_
      refine AOp.of_run (ARun.quo rfl rfl rfl (by omega)) ?_
      refine AOps.step rfl rfl ?_
      refine AOp.of_run (ARun.mvV (.inr rfl) rfl) ?_
      refine AOps.step rfl rfl ?_
      refine AOp.of_run (ARun.mvV (.inr rfl) rfl) ?_
      refine AOps.nil ?_
      refine AC.ret (ARes.two rfl (RV.V rfl) (RV.V rfl) ⟨?_, rfl⟩)
      rw [if_neg e2]; rfl
  · have e : op ≠ 48 := by simpa using hc
    rw [if_neg e]
    (repeat (first | refine AC.seq ?_ | refine AC.block ?_ | refine AC.skip ?_ | refine AC.exit ?_))
    (repeat (first | refine AC.seq ?_ | refine AC.block ?_ | refine AC.skip ?_))
    refine AC.region ?_
    refine AOps.step rfl rfl ?_
    refine AOp.of_run (ARun.eql rfl rfl rfl) ?_
    refine AOps.step rfl rfl ?_
    refine AOp.of_run (ARun.mvV (.inr rfl) rfl) ?_
    refine AOps.nil ?_
    (repeat (first | refine AC.seq ?_ | refine AC.block ?_ | refine AC.skip ?_)); refine AC.cond rfl (fun hc => ?_) (fun hc => ?_)
    · have e : op = 144 := by simpa using hc
      rw [if_pos e]
      (repeat (first | refine AC.seq ?_ | refine AC.block ?_ | refine AC.skip ?_))
      refine AC.region ?_
      refine AOps.step rfl rfl ?_
      refine AOp.of_run (ARun.mvV (.inl rfl) rfl) ?_
      refine AOps.step rfl rfl ?_
      refine AOp.of_run (ARun.eql rfl rfl rfl) ?_
      refine AOps.nil ?_
      (repeat (first | refine AC.seq ?_ | refine AC.block ?_ | refine AC.skip ?_)); refine AC.cond rfl (fun hc => ?_) (fun hc => ?_)
      · have e2 : y = 0 := by simpa using hc
        (repeat (first | refine AC.seq ?_ | refine AC.block ?_ | refine AC.skip ?_))
        refine AC.region ?_
        refine AOps.step rfl rfl ?_
        refine AOp.of_run (ARun.mvV (.inl rfl) rfl) ?_
        refine AOps.step rfl rfl ?_
        refine AOp.of_run (ARun.mvV (.inr rfl) rfl) ?_
        refine AOps.step rfl rfl ?_
        refine AOp.of_run (ARun.mvV (.inr rfl) rfl) ?_
        refine AOps.nil ?_
        refine AC.ret (ARes.two rfl (RV.V rfl) (RV.V rfl) ⟨?_, rfl⟩)
        rw [if_pos e2]; rfl
      · have e2 : y ≠ 0 := by simpa using hc
        (repeat (first | refine AC.seq ?_ | refine AC.block ?_ | refine AC.skip ?_ | refine AC.exit ?_))
        (repeat (first | refine AC.seq ?_ | refine AC.block ?_ | refine AC.skip ?_))
        refine AC.region ?_
        refine AOps.step rfl rfl ?_
        refine AOp.of_run (ARun.mvV (.inl rfl) rfl) ?_
        refine AOps.step rfl rfl ?_
        refine AOp.of_run (ARun.mvV (.inl rfl) rfl) ?_
        refine AOps.step rfl rfl ?_
        refine AOp.of_run (ARun.rem rfl rfl rfl (by omega)) ?_
        refine AOps.step rfl rfl ?_
        refine AOp.of_run (ARun.mvV (.inr rfl) rfl) ?_
        refine AOps.step rfl rfl ?_
        refine AOp.of_run (ARun.mvV (.inr rfl) rfl) ?_
        refine AOps.nil ?_
        refine AC.ret (ARes.two rfl (RV.V rfl) (RV.V rfl) ⟨?_, rfl⟩)
        rw [if_neg e2]; rfl
    · have e : op ≠ 144 := by simpa using hc
      rw [if_neg e]
      (repeat (first | refine AC.seq ?_ | refine AC.block ?_ | refine AC.skip ?_ | refine AC.exit ?_))
      (repeat (first | refine AC.seq ?_ | refine AC.block ?_ | refine AC.skip ?_))
      refine AC.region ?_
      refine AOps.step rfl rfl ?_
      refine AOp.of_run (ARun.eql rfl rfl rfl) ?_
      refine AOps.step rfl rfl ?_
      refine AOp.of_run (ARun.mvV (.inr rfl) rfl) ?_
      refine AOps.nil ?_
      (repeat (first | refine AC.seq ?_ | refine AC.block ?_ | refine AC.skip ?_)); refine AC.cond rfl (fun hc => ?_) (fun hc => ?_)
      · have e : op = 96 := by simpa using hc
        rw [if_pos (show op = 96 ∨ op = 112 ∨ op = 192 from by simp [e])]
        (repeat (first | refine AC.seq ?_ | refine AC.block ?_ | refine AC.skip ?_ | refine AC.exit ?_))
        (repeat (first | refine AC.seq ?_ | refine AC.block ?_ | refine AC.skip ?_)); refine AC.cond rfl (fun hc => ?_) (fun hc => ?_)
        · (repeat (first | refine AC.seq ?_ | refine AC.block ?_ | refine AC.skip ?_))
          refine AC.region ?_
          refine AOps.step rfl rfl ?_
          refine AOp.of_run (ARun.mvV (.inl rfl) rfl) ?_
          refine AOps.step rfl rfl ?_
          refine AOp.of_run (ARun.mvV (.inl rfl) rfl) ?_
          refine AOps.step rfl rfl ?_
          refine AOp.of_run (ARun.mvV (.inl rfl) rfl) ?_
          refine AOps.step rfl rfl ?_
          refine AOp.of_run (ARun.mvV (.inl rfl) rfl) ?_
          refine AOps.step rfl rfl (AOp.call_ rfl rfl ((shift_spec op x y w _).mono ?_))
          rintro _ _ ⟨rfl, rfl⟩
          refine AOps.step rfl rfl ?_
          refine AOp.of_run (ARun.mvV (.inl rfl) rfl) ?_
          refine AOps.step rfl rfl (AOp.call_ rfl rfl ((lowG_spec _ w _).mono ?_))
          rintro _ _ ⟨rfl, rfl⟩
          refine AOps.step rfl rfl ?_
          refine AOp.of_run (ARun.mvV (.inr rfl) rfl) ?_
          refine AOps.step rfl rfl ?_
          refine AOp.of_run (ARun.mvV (.inr rfl) rfl) ?_
          refine AOps.nil ?_
          refine AC.ret (ARes.two rfl (RV.V rfl) (RV.V rfl) ⟨rfl, rfl⟩)
        · simp [e] at hc
      · have n96 : op ≠ 96 := by simpa using hc
        (repeat (first | refine AC.seq ?_ | refine AC.block ?_ | refine AC.skip ?_ | refine AC.exit ?_))
        (repeat (first | refine AC.seq ?_ | refine AC.block ?_ | refine AC.skip ?_))
        refine AC.region ?_
        refine AOps.step rfl rfl ?_
        refine AOp.of_run (ARun.eql rfl rfl rfl) ?_
        refine AOps.step rfl rfl ?_
        refine AOp.of_run (ARun.mvV (.inr rfl) rfl) ?_
        refine AOps.nil ?_
        (repeat (first | refine AC.seq ?_ | refine AC.block ?_ | refine AC.skip ?_)); refine AC.cond rfl (fun hc => ?_) (fun hc => ?_)
        · have e : op = 112 := by simpa using hc
          rw [if_pos (show op = 96 ∨ op = 112 ∨ op = 192 from by simp [e])]
          (repeat (first | refine AC.seq ?_ | refine AC.block ?_ | refine AC.skip ?_ | refine AC.exit ?_))
          (repeat (first | refine AC.seq ?_ | refine AC.block ?_ | refine AC.skip ?_)); refine AC.cond rfl (fun hc => ?_) (fun hc => ?_)
          · (repeat (first | refine AC.seq ?_ | refine AC.block ?_ | refine AC.skip ?_))
            refine AC.region ?_
            refine AOps.step rfl rfl ?_
            refine AOp.of_run (ARun.mvV (.inl rfl) rfl) ?_
            refine AOps.step rfl rfl ?_
            refine AOp.of_run (ARun.mvV (.inl rfl) rfl) ?_
            refine AOps.step rfl rfl ?_
            refine AOp.of_run (ARun.mvV (.inl rfl) rfl) ?_
            refine AOps.step rfl rfl ?_
            refine AOp.of_run (ARun.mvV (.inl rfl) rfl) ?_
            refine AOps.step rfl rfl (AOp.call_ rfl rfl ((shift_spec op x y w _).mono ?_))
            rintro _ _ ⟨rfl, rfl⟩
            refine AOps.step rfl rfl ?_
            refine AOp.of_run (ARun.mvV (.inl rfl) rfl) ?_
            refine AOps.step rfl rfl (AOp.call_ rfl rfl ((lowG_spec _ w _).mono ?_))
            rintro _ _ ⟨rfl, rfl⟩
            refine AOps.step rfl rfl ?_
            refine AOp.of_run (ARun.mvV (.inr rfl) rfl) ?_
            refine AOps.step rfl rfl ?_
            refine AOp.of_run (ARun.mvV (.inr rfl) rfl) ?_
            refine AOps.nil ?_
            refine AC.ret (ARes.two rfl (RV.V rfl) (RV.V rfl) ⟨rfl, rfl⟩)
          · simp [e] at hc
        · have n112 : op ≠ 112 := by simpa using hc
          (repeat (first | refine AC.seq ?_ | refine AC.block ?_ | refine AC.skip ?_ | refine AC.exit ?_))
          (repeat (first | refine AC.seq ?_ | refine AC.block ?_ | refine AC.skip ?_))
          refine AC.region ?_
          refine AOps.step rfl rfl ?_
          refine AOp.of_run (ARun.eql rfl rfl rfl) ?_
          refine AOps.step rfl rfl ?_
          refine AOp.of_run (ARun.mvV (.inr rfl) rfl) ?_
          refine AOps.nil ?_
          cases e : decide (op = 192)
          · have e2 : ¬ (op = 96 ∨ op = 112 ∨ op = 192) := by simpa [n96, n112] using e
            rw [if_neg e2]
            (repeat (first | refine AC.seq ?_ | refine AC.block ?_ | refine AC.skip ?_ | refine AC.exit ?_))
            (repeat (first | refine AC.seq ?_ | refine AC.block ?_ | refine AC.skip ?_)); refine AC.cond rfl (fun hc => ?_) (fun hc => ?_)
            · simp [e] at hc
            (repeat (first | refine AC.seq ?_ | refine AC.block ?_ | refine AC.skip ?_ | refine AC.exit ?_))
            (repeat (first | refine AC.seq ?_ | refine AC.block ?_ | refine AC.skip ?_))
            refine AC.region ?_
            refine AOps.step rfl rfl ?_
            refine AOp.of_run (ARun.mvV (.inl rfl) rfl) ?_
            refine AOps.step rfl rfl ?_
            refine AOp.of_run (ARun.mvV (.inl rfl) rfl) ?_
            refine AOps.step rfl rfl ?_
            refine AOp.of_run (ARun.mvV (.inl rfl) rfl) ?_
            refine AOps.step rfl rfl (AOp.call_ rfl rfl ((plain_spec op x y _).mono ?_))
            rintro _ _ ⟨rfl, rfl⟩
            refine AOps.step rfl rfl ?_
            refine AOp.of_run (ARun.mvT (.inl rfl) rfl) ?_
            refine AOps.step rfl rfl ?_
            refine AOp.of_run (ARun.extract rfl rfl rfl) ?_
            refine AOps.step rfl rfl ?_
            refine AOp.of_run (ARun.extract rfl rfl rfl) ?_
            refine AOps.step rfl rfl ?_
            refine AOp.of_run (ARun.mvV (.inr rfl) rfl) ?_
            refine AOps.step rfl rfl ?_
            refine AOp.of_run (ARun.mvV (.inr rfl) rfl) ?_
            refine AOps.nil ?_
            generalize plainF op x y = q
            (repeat (first | refine AC.seq ?_ | refine AC.block ?_ | refine AC.skip ?_))
            refine AC.region ?_
            refine AOps.step rfl rfl ?_
            refine AOp.of_run (ARun.mvV (.inl rfl) rfl) ?_
            refine AOps.step rfl rfl ?_
            refine AOp.of_run (ARun.mvV (.inl rfl) rfl) ?_
            refine AOps.step rfl rfl (AOp.call_ rfl rfl ((lowG_spec _ w _).mono ?_))
            rintro _ _ ⟨rfl, rfl⟩
            refine AOps.step rfl rfl ?_
            refine AOp.of_run (ARun.mvV (.inl rfl) rfl) ?_
            refine AOps.step rfl rfl ?_
            refine AOp.of_run (ARun.mvV (.inr rfl) rfl) ?_
            refine AOps.step rfl rfl ?_
            refine AOp.of_run (ARun.mvV (.inr rfl) rfl) ?_
            refine AOps.nil ?_
            refine AC.ret (ARes.two rfl (RV.V rfl) (RV.V rfl) ⟨?_, rfl⟩)
            cases q with
            | none => cases w <;> rfl
            | some r => rfl
          · have e2 : op = 192 := by simpa using e
            rw [if_pos (show op = 96 ∨ op = 112 ∨ op = 192 from by simp [e2])]
            (repeat (first | refine AC.seq ?_ | refine AC.block ?_ | refine AC.skip ?_ | refine AC.exit ?_))
            (repeat (first | refine AC.seq ?_ | refine AC.block ?_ | refine AC.skip ?_)); refine AC.cond rfl (fun hc => ?_) (fun hc => ?_)
            · (repeat (first | refine AC.seq ?_ | refine AC.block ?_ | refine AC.skip ?_))
              refine AC.region ?_
              refine AOps.step rfl rfl ?_
              refine AOp.of_run (ARun.mvV (.inl rfl) rfl) ?_
              refine AOps.step rfl rfl ?_
              refine AOp.of_run (ARun.mvV (.inl rfl) rfl) ?_
              refine AOps.step rfl rfl ?_
              refine AOp.of_run (ARun.mvV (.inl rfl) rfl) ?_
              refine AOps.step rfl rfl ?_
              refine AOp.of_run (ARun.mvV (.inl rfl) rfl) ?_
              refine AOps.step rfl rfl (AOp.call_ rfl rfl ((shift_spec op x y w _).mono ?_))
              rintro _ _ ⟨rfl, rfl⟩
              refine AOps.step rfl rfl ?_
              refine AOp.of_run (ARun.mvV (.inl rfl) rfl) ?_
              refine AOps.step rfl rfl (AOp.call_ rfl rfl ((lowG_spec _ w _).mono ?_))
              rintro _ _ ⟨rfl, rfl⟩
              refine AOps.step rfl rfl ?_
              refine AOp.of_run (ARun.mvV (.inr rfl) rfl) ?_
              refine AOps.step rfl rfl ?_
              refine AOp.of_run (ARun.mvV (.inr rfl) rfl) ?_
              refine AOps.nil ?_
              refine AC.ret (ARes.two rfl (RV.V rfl) (RV.V rfl) ⟨rfl, rfl⟩)
            · simp [e] at hc

/-- The operations. -/
def aluB (op : Int) : Bool := (aluF op 0 0 true).isSome
end Go.Proofs.Ytilanageangegaa
