/- Walks and laws for LawFree (4): WUsed, ChkP, WWays, WCheck, WMem, WMem2, WChk1, Ab16. No statement of the seat is proved here. -/
import Derived.Test.YtilanageangegaaF3
import Derived.Laws.StructEq

/- Walks of package ir (6): used. -/
set_option linter.unusedVariables false
set_option linter.unusedSimpArgs false
namespace Go.Proofs.Ytilanageangegaa
open Go.Ab

/-- What a part uses is made ahead. -/
def partU (ok : Int → Int → Int → Prop) (i : Nat) (p : DPart) : Prop :=
  (∀ x ∈ p.phis, x.frm.length = p.pred.length ∧ ∀ j (h1 : j < x.frm.length) (h2 : j < p.pred.length), ok p.pred[j] 1073741824 x.frm[j]) ∧
  (∀ k (hk : k < p.nodes.length), ∀ id ∈ usesL p.nodes[k], ok i (k + 1) id) ∧ ∀ id ∈ endsL p.end_, ok i 1073741824 id
def usesP (ok : Int → Int → Int → Prop) (f : DIr) : Prop := ∀ i (h : i < f.parts.length), partU ok i f.parts[i]
def okU (L : List DPk) (U : List Int) (part at_ id : Int) : Prop := okP L U ⟨part, at_⟩ id
theorem usesL_len (x : DNode) (h : x.args.length ≤ 2000000) : (usesL x).length ≤ 1000000000 := by
  unfold usesL; repeat' split
  all_goals first | omega | simp
theorem endsL_len (e : DTerm) : (endsL e).length ≤ 1000000000 := by
  unfold endsL; repeat' split
  all_goals simp
theorem predP_mem {f : DIr} {y a : Int} (h : a ∈ predP (succL f) y) : 0 ≤ a ∧ a < f.parts.length := by
  unfold predP at h
  obtain ⟨x, hx, hy⟩ := List.mem_flatMap.1 h
  obtain ⟨z, _, rfl⟩ := List.mem_map.1 hy
  have := List.mem_zipIdx hx
  have hl := succL_len f
  omega

set_option maxRecDepth 10000 in
theorem used_spec (f : DIr) (up : AVal) (L : List DPk) (n bc b : Nat) (h : AHeap) (z : Sz f) (hne : f.parts ≠ []) (hw : waysP f) (hL : L.length = n) (hbc : bc ≠ b) (hb : h b = some (.cells (L.flatMap ePk) 157 (n * 2)))
    (hc0 : h bc = some (.cells (eChk f (.v (.slice (some ⟨b, 0, none⟩) n n)) up) 132 4)) :
    Sp Try.prog 66 [.v (ptr bc)] h (fun r h' => ∃ U : List Int, U.length = f.parts.length ∧ Ab.Fin (order (succL f)) (predF (succL f) (order (succL f))) (upf U) ∧
      ((usesP (okU L U) f ∧ r = .v .nilIface ∧ HSub (hset h bc none) h') ∨ (¬ usesP (okU L U) f ∧ ∃ b i, r = eRef b ∧ h' b = some (.cells [eI i, eI 3] 155 2) ∧ HSub (hset h bc none) h'))) := by
  have hz := z.parts
  have hsl := succL_len f
  have hs0 : succL f ≠ [] := fun e => by rw [e] at hsl; exact hne (List.eq_nil_of_length_eq_zero hsl.symm)
  have hrows := succL_rows f
  refine Sp.of Try.func66 rfl rfl (by show 1 ≤ 105; decide) ?_
  (repeat (first | refine AC.seq ?_ | refine AC.block ?_ | refine AC.skip ?_))
  refine AC.region ?_
  refine AOps.step rfl rfl ?_
  refine AOp.of_run (ARun.mvV (.inr rfl) rfl) ?_
  refine AOps.nil ?_
  (repeat (first | refine AC.seq ?_ | refine AC.block ?_ | refine AC.skip ?_))
  refine AC.region ?_
  refine AOps.step rfl rfl ?_
  refine AOp.of_run (ARun.mvV (.inl rfl) rfl) ?_
  refine AOps.step rfl rfl ?_
  refine AOp.of_run (ARun.mvV (.inl rfl) rfl) ?_
  refine AOps.step rfl rfl ?_
  refine AOp.of_run (ARun.nilCheck rfl rfl) ?_
  refine AOps.step rfl rfl ?_
  refine AOp.of_run (ARun.fieldAddr rfl rfl) ?_
  refine AOps.step rfl rfl (AOp.of_run (ARun.loadN rfl rfl hc0 rfl) ?_)
  refine AOps.step rfl rfl (AOp.call_ rfl rfl ((Succ_spec f _ (by omega)).mono ?_))
  rintro _ _ ⟨rfl, rfl⟩
  refine AOps.step rfl rfl (AOp.call_ rfl rfl ((Idom_spec (succL f) _ hs0 (by omega) (fun l hl => by have := hrows l hl; omega)).mono ?_))
  rintro _ _ ⟨⟨U, rfl, hUl, hfin⟩, rfl⟩
  rename_i h
  rw [hsl] at hUl
  refine AOps.step rfl rfl ?_
  refine AOp.of_run (ARun.nilCheck rfl rfl) ?_
  refine AOps.step rfl rfl ?_
  refine AOp.of_run (ARun.fieldAddr rfl rfl) ?_
  refine AOps.step rfl rfl (AOp.store1 rfl rfl hc0 rfl (by show 3 < 4; decide) ?_)
  refine AOps.nil ?_
  have hU : ∀ {P : List Int → Prop}, P U → P U := fun q => q
  obtain ⟨H, hH⟩ : ∃ H : AHeap, H = hset h bc (some (.cells (eChk f (.v (.slice (some ⟨b, 0, none⟩) n n)) (eIs U)) 132 4)) := ⟨_, rfl⟩
  change thenA _ _ Exit.normal _ (hset h bc (some (.cells (eChk f (.v (.slice (some ⟨b, 0, none⟩) n n)) (eIs U)) 132 4)))
  rw [← hH]
  have hHb : H b = some (.cells (L.flatMap ePk) 157 (n * 2)) := by rw [hH]; exact hset_skip hbc.symm hb
  have hHc : H bc = some (.cells (eChk f (.v (.slice (some ⟨b, 0, none⟩) n n)) (eIs U)) 132 4) := by rw [hH]; exact hset_same _ _ _
  have hsub : HSub (hset h bc none) H := fun c k e => by
    have h1 : c ≠ bc := by rintro rfl; rw [hset_same] at e; cases e
    rw [hset_ne _ _ h1] at e
    rw [hH, hset_ne _ _ h1]; exact e
  clear hH
  have hord : ∀ y ∈ order (succL f), 0 ≤ y ∧ y < U.length := fun y hy => by have := order_range (succL f) y hy; rw [hUl]; omega
  have hreach : ∀ a : Int, 0 ≤ a → a < f.parts.length → a ∈ order (succL f) := fun a h0 h1 => by
    have := rw_mem hs0 (hw.2 a.toNat (by omega)).1
    rwa [Int.toNat_of_nonneg h0] at this
  have t := hfin.tree
  (repeat (first | refine AC.seq ?_ | refine AC.block ?_ | refine AC.skip ?_))
  refine AC.region ?_
  refine AOps.step rfl rfl ?_
  refine AOp.of_run (ARun.mvV (.inl rfl) rfl) ?_
  refine AOps.step rfl rfl ?_
  refine AOp.of_run (ARun.nilCheck rfl rfl) ?_
  refine AOps.step rfl rfl ?_
  refine AOp.of_run (ARun.fieldAddr rfl rfl) ?_
  refine AOps.step rfl rfl ?_
  refine AOp.of_run (ARun.fieldAddr rfl rfl) ?_
  refine AOps.step rfl rfl (AOp.of_run (ARun.load rfl rfl hHc rfl) ?_)
  refine AOps.step rfl rfl ?_
  refine AOp.of_run (ARun.lenL rfl rfl) ?_
  refine AOps.step rfl rfl ?_
  refine AOp.of_run (ARun.mvV (.inl rfl) rfl) ?_
  refine AOps.nil ?_
  (repeat (first | refine AC.seq ?_ | refine AC.block ?_ | refine AC.skip ?_ | refine AC.exit ?_))
  refine AC.loop (fun m τ h' => ∃ i : Nat, i ≤ f.parts.length ∧ m = f.parts.length - i ∧ Slots τ [(0, .v (ptr bc)), (25, eParts f.parts), (26, eI f.parts.length), (27, eI i)] ∧ (∀ j (hj : j < f.parts.length), j < i → partU (okU L U) j f.parts[j]) ∧ h' = H) f.parts.length ?_ ?_
  · exact ⟨0, Nat.zero_le _, rfl, ⟨rfl, rfl, rfl, rfl, trivial⟩, fun j _ hj => by omega, rfl⟩
  rintro m τ h' ⟨i, hi, rfl, hs, hall, rfl⟩
  obtain ⟨t0, rfl⟩ := hs.open_
  (repeat (first | refine AC.seq ?_ | refine AC.block ?_ | refine AC.skip ?_))
  refine AC.region ?_
  refine AOps.step rfl rfl ?_
  refine AOp.of_run (ARun.lss rfl rfl rfl) ?_
  refine AOps.nil ?_
  (repeat (first | refine AC.seq ?_ | refine AC.block ?_ | refine AC.skip ?_)); refine AC.cond rfl (fun hc => ?_) (fun hc => ?_)
  · have hlt : i < f.parts.length := by simpa using hc
    have hrd : rdc (f.parts.flatMap ePart) ((i : Int).toNat * 10) 10 = some (ePart f.parts[i]) := by rw [Int.toNat_natCast]; exact rdc_flatMap ePart_len hlt
    have hbadP : ¬ partU (okU L U) i f.parts[i] → ¬ usesP (okU L U) f := fun e q => e (q i hlt)
    have hgood : partU (okU L U) i f.parts[i] → ∀ j (hj : j < f.parts.length), j < i + 1 → partU (okU L U) j f.parts[j] := fun e j hj hji => by
      rcases Nat.lt_or_ge j i with c | c
      · exact hall j hj c
      · obtain rfl : j = i := by omega
        exact e
    have zp := z.part _ (List.getElem_mem hlt)
    have hio : (i : Int) ∈ order (succL f) := hreach i (by omega) (by omega)
    have hpd : ∀ a ∈ f.parts[i].pred, a ∈ order (succL f) := fun a ha => by
      rw [← (hw.2 i hlt).2.1] at ha
      have := predP_mem ha
      exact hreach a this.1 this.2
    generalize f.parts[i] = p at *
    have hp1 := zp.phis
    have hp2 := zp.nodes
    have hp3 := zp.pred
    (repeat (first | refine AC.seq ?_ | refine AC.block ?_ | refine AC.skip ?_ | refine AC.exit ?_))
    (repeat (first | refine AC.seq ?_ | refine AC.block ?_ | refine AC.skip ?_))
    refine AC.region ?_
    refine AOps.step rfl rfl ?_
    refine AOp.of_run (ARun.mvV (.inl rfl) rfl) ?_
    refine AOps.step rfl rfl ?_
    refine AOp.of_run (ARun.indexAddrL rfl rfl rfl (by omega) (by omega)) ?_
    refine AOps.step rfl rfl (AOp.of_run (ARun.loadNL rfl rfl hrd) ?_)
    refine AOps.step rfl rfl (AOp.alloc rfl (fun b5 hb5 => ?_))
    refine AOps.step rfl rfl ?_
    refine AOp.of_run (ARun.mvV (.inr rfl) rfl) ?_
    refine AOps.step rfl rfl (AOp.store rfl rfl (hset_same _ _ _) rfl ?_)
    refine AOps.nil ?_
    refine AC.le (Le.freezeNew (d := 4) hb5 rfl) ?_
    (repeat (first | refine AC.seq ?_ | refine AC.block ?_ | refine AC.skip ?_))
    refine AC.region ?_
    refine AOps.step rfl rfl ?_
    refine AOp.of_run (ARun.mvV (.inl rfl) rfl) ?_
    refine AOps.step rfl rfl ?_
    refine AOp.of_run (ARun.build rfl) ?_
    refine AOps.step rfl rfl (AOp.box rfl rfl (fun br hbr => ?_))
    refine AOps.step rfl rfl ?_
    refine AOp.of_run (ARun.mvV (.inr rfl) rfl) ?_
    refine AOps.nil ?_
    have hbrb : b ≠ br := (fresh_of hHb hbr).symm
    have hbrc : bc ≠ br := (fresh_of hHc hbr).symm
    change thenA _ _ Exit.normal _ (hset h' br (some (.cells [eI i, eI 3] 155 2)))
    have gB : hset h' br (some (.cells [eI i, eI 3] 155 2)) b = some (.cells (L.flatMap ePk) 157 (n * 2)) := hset_skip hbrb hHb
    have gC : hset h' br (some (.cells [eI i, eI 3] 155 2)) bc = some (.cells (eChk f (.v (.slice (some ⟨b, 0, none⟩) n n)) (eIs U)) 132 4) := hset_skip hbrc hHc
    have gR : hset h' br (some (.cells [eI i, eI 3] 155 2)) br = some (.cells [eI i, eI 3] 155 2) := hset_same _ _ _
    have gS : HSub h' (hset h' br (some (.cells [eI i, eI 3] 155 2))) := HSub.add _ hbr
    generalize hG : hset h' br (some (.cells [eI i, eI 3] 155 2)) = G at *
    have hfail : ¬ partU (okU L U) i p → ∃ U : List Int, U.length = f.parts.length ∧ Ab.Fin (order (succL f)) (predF (succL f) (order (succL f))) (upf U) ∧
      ((usesP (okU L U) f ∧ eRef br = .v .nilIface ∧ HSub (hset h bc none) G) ∨ (¬ usesP (okU L U) f ∧ ∃ b i, eRef br = eRef b ∧ G b = some (.cells [eI i, eI 3] 155 2) ∧ HSub (hset h bc none) G)) := fun e =>
      ⟨U, hUl, hfin, .inr ⟨hbadP e, br, i, rfl, gR, hsub.trans gS⟩⟩
    (repeat (first | refine AC.seq ?_ | refine AC.block ?_ | refine AC.skip ?_))
    refine AC.region ?_
    refine AOps.step rfl rfl ?_
    refine AOp.of_run (ARun.fieldAddrL rfl rfl) ?_
    refine AOps.step rfl rfl ?_
    refine AOp.of_run (ARun.loadL rfl rfl rfl) ?_
    refine AOps.step rfl rfl ?_
    refine AOp.of_run (ARun.lenL rfl rfl) ?_
    refine AOps.step rfl rfl ?_
    refine AOp.of_run (ARun.mvV (.inl rfl) rfl) ?_
    refine AOps.nil ?_
    (repeat (first | refine AC.seq ?_ | refine AC.block ?_ | refine AC.skip ?_ | refine AC.exit ?_))
    refine AC.loop (fun m τ h2 => ∃ k : Nat, k ≤ p.phis.length ∧ m = p.phis.length - k ∧ Slots τ [(0, .v (ptr bc)), (3, eI i), (4, .lp (ePart p) 0), (5, .v (ptr br)), (25, eParts f.parts), (26, eI f.parts.length), (27, eI i), (36, ePhis p.phis), (37, eI p.phis.length), (38, eI k)] ∧
      (∀ j (hj : j < p.phis.length), j < k → p.phis[j].frm.length = p.pred.length ∧ ∀ a (h1 : a < p.phis[j].frm.length) (h2 : a < p.pred.length), okU L U p.pred[a] 1073741824 p.phis[j].frm[a]) ∧ h2 = G) p.phis.length ?_ ?_
    · exact ⟨0, Nat.zero_le _, rfl, ⟨rfl, rfl, rfl, rfl, rfl, rfl, rfl, rfl, rfl, rfl, trivial⟩, fun j _ hj => by omega, rfl⟩
    rintro m τ h2 ⟨k, hk, rfl, hs, hph, rfl⟩
    obtain ⟨t1, rfl⟩ := hs.open_
    (repeat (first | refine AC.seq ?_ | refine AC.block ?_ | refine AC.skip ?_))
    refine AC.region ?_
    refine AOps.step rfl rfl ?_
    refine AOp.of_run (ARun.lss rfl rfl rfl) ?_
    refine AOps.nil ?_
    (repeat (first | refine AC.seq ?_ | refine AC.block ?_ | refine AC.skip ?_)); refine AC.cond rfl (fun hc => ?_) (fun hc => ?_)
    · have hlt2 : k < p.phis.length := by simpa using hc
      have g1 : rdc (p.phis.flatMap ePhi) ((k : Int).toNat * 2) 2 = some (ePhi p.phis[k]) := by rw [Int.toNat_natCast]; exact rdc_flatMap ePhi_len hlt2
      have hbx : ¬ (p.phis[k].frm.length = p.pred.length ∧ ∀ a (h1 : a < p.phis[k].frm.length) (h2 : a < p.pred.length), okU L U p.pred[a] 1073741824 p.phis[k].frm[a]) → ¬ partU (okU L U) i p := fun e q => e (q.1 _ (List.getElem_mem hlt2))
      have hgx : (p.phis[k].frm.length = p.pred.length ∧ ∀ a (h1 : a < p.phis[k].frm.length) (h2 : a < p.pred.length), okU L U p.pred[a] 1073741824 p.phis[k].frm[a]) → ∀ j (hj : j < p.phis.length), j < k + 1 → p.phis[j].frm.length = p.pred.length ∧ ∀ a (h1 : a < p.phis[j].frm.length) (h2 : a < p.pred.length), okU L U p.pred[a] 1073741824 p.phis[j].frm[a] := fun e j hj hjk => by
        rcases Nat.lt_or_ge j k with c | c
        · exact hph j hj c
        · obtain rfl : j = k := by omega
          exact e
      have hfr := zp.frm _ (List.getElem_mem hlt2)
      generalize p.phis[k] = x at *
      (repeat (first | refine AC.seq ?_ | refine AC.block ?_ | refine AC.skip ?_ | refine AC.exit ?_))
      (repeat (first | refine AC.seq ?_ | refine AC.block ?_ | refine AC.skip ?_))
      refine AC.region ?_
      refine AOps.step rfl rfl ?_
      refine AOp.of_run (ARun.indexAddrL rfl rfl rfl (by omega) (by omega)) ?_
      refine AOps.step rfl rfl (AOp.of_run (ARun.loadNL rfl rfl g1) ?_)
      refine AOps.step rfl rfl (AOp.alloc rfl (fun b7 hb7 => ?_))
      refine AOps.step rfl rfl (AOp.store rfl rfl (hset_same _ _ _) rfl ?_)
      refine AOps.nil ?_
      refine AC.le (Le.freezeNew (d := 7) hb7 rfl) ?_
      (repeat (first | refine AC.seq ?_ | refine AC.block ?_ | refine AC.skip ?_))
      refine AC.region ?_
      refine AOps.step rfl rfl ?_
      refine AOp.of_run (ARun.fieldAddrL rfl rfl) ?_
      refine AOps.step rfl rfl ?_
      refine AOp.of_run (ARun.loadL rfl rfl rfl) ?_
      refine AOps.step rfl rfl ?_
      refine AOp.of_run (ARun.lenL rfl rfl) ?_
      refine AOps.step rfl rfl ?_
      refine AOp.of_run (ARun.fieldAddrL rfl rfl) ?_
      refine AOps.step rfl rfl ?_
      refine AOp.of_run (ARun.loadL rfl rfl rfl) ?_
      refine AOps.step rfl rfl ?_
      refine AOp.of_run (ARun.lenL rfl rfl) ?_
      refine AOps.step rfl rfl ?_
      refine AOp.of_run (ARun.neq rfl rfl rfl) ?_
      refine AOps.nil ?_
      (repeat (first | refine AC.seq ?_ | refine AC.block ?_ | refine AC.skip ?_)); refine AC.cond rfl (fun hc => ?_) (fun hc => ?_)
      · have hne2 : (x.frm.length : Int) ≠ p.pred.length := by simpa using hc
        (repeat (first | refine AC.seq ?_ | refine AC.block ?_ | refine AC.skip ?_))
        refine AC.region ?_
        refine AOps.step rfl rfl ?_
        refine AOp.of_run (ARun.mvV (.inl rfl) rfl) ?_
        refine AOps.step rfl rfl ?_
        refine AOp.of_run (ARun.mkI rfl (by kernel_rfl) rfl) ?_
        refine AOps.step rfl rfl ?_
        refine AOp.of_run (ARun.mvV (.inr rfl) rfl) ?_
        refine AOps.nil ?_
        exact AC.ret (ARes.one rfl (RV.V rfl) (hfail (hbx fun e => hne2 (by rw [e.1]))))
      have hlen : x.frm.length = p.pred.length := by
        have : (x.frm.length : Int) = p.pred.length := by simpa using hc
        omega
      (repeat (first | refine AC.seq ?_ | refine AC.block ?_ | refine AC.skip ?_ | refine AC.exit ?_))
      (repeat (first | refine AC.seq ?_ | refine AC.block ?_ | refine AC.skip ?_))
      refine AC.region ?_
      refine AOps.step rfl rfl ?_
      refine AOp.of_run (ARun.fieldAddrL rfl rfl) ?_
      refine AOps.step rfl rfl ?_
      refine AOp.of_run (ARun.loadL rfl rfl rfl) ?_
      refine AOps.step rfl rfl ?_
      refine AOp.of_run (ARun.lenL rfl rfl) ?_
      refine AOps.step rfl rfl ?_
      refine AOp.of_run (ARun.mvV (.inl rfl) rfl) ?_
      refine AOps.nil ?_
      (repeat (first | refine AC.seq ?_ | refine AC.block ?_ | refine AC.skip ?_ | refine AC.exit ?_))
      refine AC.loop (fun m τ h3 => ∃ a : Nat, a ≤ x.frm.length ∧ m = x.frm.length - a ∧ Slots τ [(0, .v (ptr bc)), (3, eI i), (4, .lp (ePart p) 0), (5, .v (ptr br)), (25, eParts f.parts), (26, eI f.parts.length), (27, eI i), (36, ePhis p.phis), (37, eI p.phis.length), (38, eI k), (52, eIs x.frm), (53, eI x.frm.length), (54, eI a)] ∧
        (∀ c (h1 : c < x.frm.length) (h2 : c < p.pred.length), c < a → okU L U p.pred[c] 1073741824 x.frm[c]) ∧ h3 = h2) x.frm.length ?_ ?_
      · exact ⟨0, Nat.zero_le _, rfl, ⟨rfl, rfl, rfl, rfl, rfl, rfl, rfl, rfl, rfl, rfl, rfl, rfl, rfl, trivial⟩, fun c _ _ hc => by omega, rfl⟩
      rintro m τ h3 ⟨a, ha, rfl, hs, hok, rfl⟩
      obtain ⟨t2, rfl⟩ := hs.open_
      (repeat (first | refine AC.seq ?_ | refine AC.block ?_ | refine AC.skip ?_))
      refine AC.region ?_
      refine AOps.step rfl rfl ?_
      refine AOp.of_run (ARun.lss rfl rfl rfl) ?_
      refine AOps.nil ?_
      (repeat (first | refine AC.seq ?_ | refine AC.block ?_ | refine AC.skip ?_)); refine AC.cond rfl (fun hc => ?_) (fun hc => ?_)
      · have hlt3 : a < x.frm.length := by simpa using hc
        have hlt4 : a < p.pred.length := by omega
        have hpo := hpd _ (List.getElem_mem hlt4)
        (repeat (first | refine AC.seq ?_ | refine AC.block ?_ | refine AC.skip ?_ | refine AC.exit ?_))
        (repeat (first | refine AC.seq ?_ | refine AC.block ?_ | refine AC.skip ?_))
        refine AC.region ?_
        refine AOps.step rfl rfl ?_
        refine AOp.of_run (ARun.mvV (.inl rfl) rfl) ?_
        refine AOps.step rfl rfl ?_
        refine AOp.of_run (ARun.indexAddrL rfl rfl rfl (by omega) (by omega)) ?_
        refine AOps.step rfl rfl ?_
        refine AOp.of_run (ARun.loadL rfl rfl (get_map hlt3)) ?_
        refine AOps.step rfl rfl ?_
        refine AOp.of_run (ARun.mvV (.inr rfl) rfl) ?_
        refine AOps.step rfl rfl ?_
        refine AOp.of_run (ARun.mvV (.inr rfl) rfl) ?_
        refine AOps.nil ?_
        (repeat (first | refine AC.seq ?_ | refine AC.block ?_ | refine AC.skip ?_))
        refine AC.region ?_
        refine AOps.step rfl rfl ?_
        refine AOp.of_run (ARun.mvV (.inl rfl) rfl) ?_
        refine AOps.step rfl rfl ?_
        refine AOp.of_run (ARun.fieldAddrL rfl rfl) ?_
        refine AOps.step rfl rfl ?_
        refine AOp.of_run (ARun.loadL rfl rfl rfl) ?_
        refine AOps.step rfl rfl ?_
        refine AOp.of_run (ARun.mvV (.inl rfl) rfl) ?_
        refine AOps.step rfl rfl ?_
        refine AOp.of_run (ARun.indexAddrL rfl rfl rfl (by omega) (by omega)) ?_
        refine AOps.step rfl rfl ?_
        refine AOp.of_run (ARun.loadL rfl rfl (get_map hlt4)) ?_
        refine AOps.step rfl rfl ?_
        refine AOp.of_run (ARun.build rfl) ?_
        refine AOps.step rfl rfl ?_
        refine AOp.of_run (ARun.mvV (.inl rfl) rfl) ?_
        refine AOps.step rfl rfl ?_
        refine AOp.buildSlice rfl ?_
        refine AOps.step rfl rfl (AOp.call_ rfl rfl ((ahead_spec f U (order (succL f)) L n bc b ⟨p.pred[a], 1073741824⟩ [x.frm[a]] _ (by simp) hL gB gC t hpo hord).mono ?_))
        rintro _ _ ⟨⟨q, rfl, hq⟩, rfl⟩
        refine AOps.step rfl rfl ?_
        refine AOp.of_run (ARun.not rfl rfl) ?_
        refine AOps.nil ?_
        (repeat (first | refine AC.seq ?_ | refine AC.block ?_ | refine AC.skip ?_)); refine AC.cond rfl (fun hc => ?_) (fun hc => ?_)
        · have hqf : q = false := by simpa using hc
          (repeat (first | refine AC.seq ?_ | refine AC.block ?_ | refine AC.skip ?_))
          refine AC.region ?_
          refine AOps.step rfl rfl ?_
          refine AOp.of_run (ARun.mvV (.inl rfl) rfl) ?_
          refine AOps.step rfl rfl ?_
          refine AOp.of_run (ARun.mkI rfl (by kernel_rfl) rfl) ?_
          refine AOps.step rfl rfl ?_
          refine AOp.of_run (ARun.mvV (.inr rfl) rfl) ?_
          refine AOps.nil ?_
          refine AC.ret (ARes.one rfl (RV.V rfl) (hfail (hbx fun e => ?_)))
          have := hq.2 (by simpa [okU] using e.2 a hlt3 hlt4)
          rw [hqf] at this; cases this
        · have hqt : q = true := by simpa using hc
          (repeat (first | refine AC.seq ?_ | refine AC.block ?_ | refine AC.skip ?_ | refine AC.exit ?_))
          (repeat (first | refine AC.seq ?_ | refine AC.block ?_ | refine AC.skip ?_))
          refine AC.region ?_
          refine AOps.step rfl rfl ?_
          refine AOp.of_run (ARun.add rfl rfl rfl) ?_
          refine AOps.step rfl rfl ?_
          refine AOp.of_run (ARun.mvV (.inl rfl) rfl) ?_
          refine AOps.nil ?_
          refine ⟨_, by omega, a + 1, hlt3, rfl, ⟨rfl, rfl, rfl, rfl, rfl, rfl, rfl, rfl, rfl, rfl, rfl, rfl, eI_wrap (by omega) (by omega) (by omega), trivial⟩, fun c h1 h2 hca => ?_, rfl⟩
          rcases Nat.lt_or_ge c a with c1 | c1
          · exact hok c h1 h2 c1
          · obtain rfl : c = a := by omega
            exact hq.1 hqt _ (by simp)
      have hge : a = x.frm.length := by simp at hc; omega
      (repeat (first | refine AC.seq ?_ | refine AC.block ?_ | refine AC.skip ?_ | refine AC.exit ?_))
      (repeat (first | refine AC.seq ?_ | refine AC.block ?_ | refine AC.skip ?_))
      refine AC.region ?_
      refine AOps.step rfl rfl ?_
      refine AOp.of_run (ARun.add rfl rfl rfl) ?_
      refine AOps.step rfl rfl ?_
      refine AOp.of_run (ARun.mvV (.inl rfl) rfl) ?_
      refine AOps.nil ?_
      exact ⟨_, by omega, k + 1, hlt2, rfl, ⟨rfl, rfl, rfl, rfl, rfl, rfl, rfl, rfl, rfl, eI_wrap (by omega) (by omega) (by omega), trivial⟩, hgx ⟨hlen, fun c h1 h2 => hok c h1 h2 (by omega)⟩, rfl⟩
    have hge : k = p.phis.length := by simp at hc; omega
    have hphis : ∀ x ∈ p.phis, x.frm.length = p.pred.length ∧ ∀ a (h1 : a < x.frm.length) (h2 : a < p.pred.length), okU L U p.pred[a] 1073741824 x.frm[a] := fun x hx => by
      obtain ⟨j, hj, rfl⟩ := List.getElem_of_mem hx
      exact hph j hj (by omega)
    (repeat (first | refine AC.seq ?_ | refine AC.block ?_ | refine AC.skip ?_ | refine AC.exit ?_))
    (repeat (first | refine AC.seq ?_ | refine AC.block ?_ | refine AC.skip ?_))
    refine AC.region ?_
    refine AOps.step rfl rfl ?_
    refine AOp.of_run (ARun.fieldAddrL rfl rfl) ?_
    refine AOps.step rfl rfl ?_
    refine AOp.of_run (ARun.loadL rfl rfl rfl) ?_
    refine AOps.step rfl rfl ?_
    refine AOp.of_run (ARun.lenL rfl rfl) ?_
    refine AOps.step rfl rfl ?_
    refine AOp.of_run (ARun.mvV (.inl rfl) rfl) ?_
    refine AOps.nil ?_
    (repeat (first | refine AC.seq ?_ | refine AC.block ?_ | refine AC.skip ?_ | refine AC.exit ?_))
    refine AC.loop (fun m τ h3 => ∃ k : Nat, k ≤ p.nodes.length ∧ m = p.nodes.length - k ∧ Slots τ [(0, .v (ptr bc)), (3, eI i), (4, .lp (ePart p) 0), (5, .v (ptr br)), (25, eParts f.parts), (26, eI f.parts.length), (27, eI i), (75, eNodes p.nodes), (76, eI p.nodes.length), (77, eI k)] ∧
      (∀ j (hj : j < p.nodes.length), j < k → ∀ id ∈ usesL p.nodes[j], okU L U i (j + 1) id) ∧ h3 = h2) p.nodes.length ?_ ?_
    · exact ⟨0, Nat.zero_le _, rfl, ⟨rfl, rfl, rfl, rfl, rfl, rfl, rfl, rfl, rfl, rfl, trivial⟩, fun j _ hj => by omega, rfl⟩
    rintro m τ h3 ⟨k2, hk2, rfl, hs, hnd, rfl⟩
    obtain ⟨t3, rfl⟩ := hs.open_
    (repeat (first | refine AC.seq ?_ | refine AC.block ?_ | refine AC.skip ?_))
    refine AC.region ?_
    refine AOps.step rfl rfl ?_
    refine AOp.of_run (ARun.lss rfl rfl rfl) ?_
    refine AOps.nil ?_
    (repeat (first | refine AC.seq ?_ | refine AC.block ?_ | refine AC.skip ?_)); refine AC.cond rfl (fun hc => ?_) (fun hc => ?_)
    · have hlt3 : k2 < p.nodes.length := by simpa using hc
      have g1 : rdc (p.nodes.flatMap eNode) ((k2 : Int).toNat * 12) 12 = some (eNode p.nodes[k2]) := by rw [Int.toNat_natCast]; exact rdc_flatMap eNode_len hlt3
      have har := zp.args _ (List.getElem_mem hlt3)
      have hw2 : IntKind.i64.wrap ((k2 : Int) + 1) = k2 + 1 := by rw [wrap_i64 (by omega) (by omega)]
      have hbx : ¬ (∀ id ∈ usesL p.nodes[k2], okU L U i (k2 + 1) id) → ¬ partU (okU L U) i p := fun e q => e (q.2.1 k2 hlt3)
      have hgx : (∀ id ∈ usesL p.nodes[k2], okU L U i (k2 + 1) id) → ∀ j (hj : j < p.nodes.length), j < k2 + 1 → ∀ id ∈ usesL p.nodes[j], okU L U i (j + 1) id := fun e j hj hjk => by
        rcases Nat.lt_or_ge j k2 with c | c
        · exact hnd j hj c
        · obtain rfl : j = k2 := by omega
          exact e
      generalize p.nodes[k2] = x at *
      have hul := usesL_len x har
      (repeat (first | refine AC.seq ?_ | refine AC.block ?_ | refine AC.skip ?_ | refine AC.exit ?_))
      (repeat (first | refine AC.seq ?_ | refine AC.block ?_ | refine AC.skip ?_))
      refine AC.region ?_
      refine AOps.step rfl rfl ?_
      refine AOp.of_run (ARun.mvV (.inl rfl) rfl) ?_
      refine AOps.step rfl rfl ?_
      refine AOp.of_run (ARun.indexAddrL rfl rfl rfl (by omega) (by omega)) ?_
      refine AOps.step rfl rfl (AOp.of_run (ARun.loadNL rfl rfl g1) ?_)
      refine AOps.step rfl rfl (AOp.alloc rfl (fun b9 hb9 => ?_))
      refine AOps.step rfl rfl ?_
      refine AOp.of_run (ARun.mvV (.inr rfl) rfl) ?_
      refine AOps.step rfl rfl (AOp.store rfl rfl (hset_same _ _ _) rfl ?_)
      refine AOps.nil ?_
      refine AC.le (Le.freezeNew (d := 11) hb9 rfl) ?_
      (repeat (first | refine AC.seq ?_ | refine AC.block ?_ | refine AC.skip ?_))
      refine AC.region ?_
      refine AOps.step rfl rfl ?_
      refine AOp.of_run (ARun.mvV (.inl rfl) rfl) ?_
      refine AOps.step rfl rfl ?_
      refine AOp.of_run (ARun.mvV (.inl rfl) rfl) ?_
      refine AOps.step rfl rfl ?_
      refine AOp.of_run (ARun.mvV (.inl rfl) rfl) ?_
      refine AOps.step rfl rfl ?_
      refine AOp.of_run (ARun.add rfl rfl rfl) ?_
      refine AOps.step rfl rfl ?_
      refine AOp.of_run (ARun.build rfl) ?_
      refine AOps.step rfl rfl ?_
      refine AOp.of_run (ARun.loadNL rfl rfl rfl) ?_
      rw [hw2]
      refine AOps.step rfl rfl (AOp.call_ rfl rfl ((Uses_spec x _ (by omega)).mono ?_))
      rintro _ _ ⟨rfl, rfl⟩
      refine AOps.step rfl rfl (AOp.call_ rfl rfl ((ahead_spec f U (order (succL f)) L n bc b ⟨i, k2 + 1⟩ (usesL x) _ hul hL gB gC t hio hord).mono ?_))
      rintro _ _ ⟨⟨q, rfl, hq⟩, rfl⟩
      refine AOps.step rfl rfl ?_
      refine AOp.of_run (ARun.not rfl rfl) ?_
      refine AOps.nil ?_
      (repeat (first | refine AC.seq ?_ | refine AC.block ?_ | refine AC.skip ?_)); refine AC.cond rfl (fun hc => ?_) (fun hc => ?_)
      · have hqf : q = false := by simpa using hc
        (repeat (first | refine AC.seq ?_ | refine AC.block ?_ | refine AC.skip ?_))
        refine AC.region ?_
        refine AOps.step rfl rfl ?_
        refine AOp.of_run (ARun.mvV (.inl rfl) rfl) ?_
        refine AOps.step rfl rfl ?_
        refine AOp.of_run (ARun.mkI rfl (by kernel_rfl) rfl) ?_
        refine AOps.step rfl rfl ?_
        refine AOp.of_run (ARun.mvV (.inr rfl) rfl) ?_
        refine AOps.nil ?_
        refine AC.ret (ARes.one rfl (RV.V rfl) (hfail (hbx fun e => ?_)))
        have := hq.2 e
        rw [hqf] at this; cases this
      · have hqt : q = true := by simpa using hc
        (repeat (first | refine AC.seq ?_ | refine AC.block ?_ | refine AC.skip ?_ | refine AC.exit ?_))
        (repeat (first | refine AC.seq ?_ | refine AC.block ?_ | refine AC.skip ?_))
        refine AC.region ?_
        refine AOps.step rfl rfl ?_
        refine AOp.of_run (ARun.add rfl rfl rfl) ?_
        refine AOps.step rfl rfl ?_
        refine AOp.of_run (ARun.mvV (.inl rfl) rfl) ?_
        refine AOps.nil ?_
        exact ⟨_, by omega, k2 + 1, hlt3, rfl, ⟨rfl, rfl, rfl, rfl, rfl, rfl, rfl, rfl, rfl, eI_wrap (by omega) (by omega) (by omega), trivial⟩, hgx (hq.1 hqt), rfl⟩
    have hge2 : k2 = p.nodes.length := by simp at hc; omega
    have g2 : rdc (ePart p) (0 + 3) 7 = some (eTerm p.end_) := rfl
    (repeat (first | refine AC.seq ?_ | refine AC.block ?_ | refine AC.skip ?_ | refine AC.exit ?_))
    (repeat (first | refine AC.seq ?_ | refine AC.block ?_ | refine AC.skip ?_))
    refine AC.region ?_
    refine AOps.step rfl rfl ?_
    refine AOp.of_run (ARun.mvV (.inl rfl) rfl) ?_
    refine AOps.step rfl rfl ?_
    refine AOp.of_run (ARun.mvV (.inl rfl) rfl) ?_
    refine AOps.step rfl rfl ?_
    refine AOp.of_run (ARun.build rfl) ?_
    refine AOps.step rfl rfl ?_
    refine AOp.of_run (ARun.fieldAddrL rfl rfl) ?_
    refine AOps.step rfl rfl (AOp.of_run (ARun.loadNL rfl rfl g2) ?_)
    refine AOps.step rfl rfl (AOp.call_ rfl rfl ((ends_spec p.end_ _).mono ?_))
    rintro _ _ ⟨rfl, rfl⟩
    refine AOps.step rfl rfl (AOp.call_ rfl rfl ((ahead_spec f U (order (succL f)) L n bc b ⟨i, 1073741824⟩ (endsL p.end_) _ (endsL_len _) hL gB gC t hio hord).mono ?_))
    rintro _ _ ⟨⟨q, rfl, hq⟩, rfl⟩
    refine AOps.step rfl rfl ?_
    refine AOp.of_run (ARun.not rfl rfl) ?_
    refine AOps.nil ?_
    (repeat (first | refine AC.seq ?_ | refine AC.block ?_ | refine AC.skip ?_)); refine AC.cond rfl (fun hc => ?_) (fun hc => ?_)
    · have hqf : q = false := by simpa using hc
      (repeat (first | refine AC.seq ?_ | refine AC.block ?_ | refine AC.skip ?_))
      refine AC.region ?_
      refine AOps.step rfl rfl ?_
      refine AOp.of_run (ARun.mvV (.inl rfl) rfl) ?_
      refine AOps.step rfl rfl ?_
      refine AOp.of_run (ARun.mkI rfl (by kernel_rfl) rfl) ?_
      refine AOps.step rfl rfl ?_
      refine AOp.of_run (ARun.mvV (.inr rfl) rfl) ?_
      refine AOps.nil ?_
      refine AC.ret (ARes.one rfl (RV.V rfl) (hfail fun e => ?_))
      have := hq.2 e.2.2
      rw [hqf] at this; cases this
    · have hqt : q = true := by simpa using hc
      (repeat (first | refine AC.seq ?_ | refine AC.block ?_ | refine AC.skip ?_ | refine AC.exit ?_))
      refine AC.le (Le.sub gS) ?_
      (repeat (first | refine AC.seq ?_ | refine AC.block ?_ | refine AC.skip ?_))
      refine AC.region ?_
      refine AOps.step rfl rfl ?_
      refine AOp.of_run (ARun.add rfl rfl rfl) ?_
      refine AOps.step rfl rfl ?_
      refine AOp.of_run (ARun.mvV (.inl rfl) rfl) ?_
      refine AOps.nil ?_
      exact ⟨_, by omega, i + 1, hlt, rfl, ⟨rfl, rfl, rfl, eI_wrap (by omega) (by omega) (by omega), trivial⟩, hgood ⟨hphis, fun k hk => hnd k hk (by omega), hq.1 hqt⟩, rfl⟩
  have hge : i = f.parts.length := by simp at hc; omega
  subst hge
  (repeat (first | refine AC.seq ?_ | refine AC.block ?_ | refine AC.skip ?_ | refine AC.exit ?_))
  (repeat (first | refine AC.seq ?_ | refine AC.block ?_ | refine AC.skip ?_))
  refine AC.region ?_
  refine AOps.step rfl rfl ?_
  refine AOp.of_run (ARun.mvV (.inr rfl) rfl) ?_
  refine AOps.nil ?_
  exact AC.ret (ARes.one rfl (RV.V rfl) ⟨U, hUl, hfin, .inl ⟨fun j hj => hall j hj hj, rfl, hsub⟩⟩)
end Go.Proofs.Ytilanageangegaa

/- What the two checks ask: one statement of both. No walk here. -/
set_option linter.unusedVariables false
set_option linter.unusedSimpArgs false
namespace Go.Proofs.Ytilanageangegaa
open Go.Ab

/-- Is a value made ahead of a place: by who dominates whom. -/
def okD (L : List DPk) (succ : List (List Int)) (part at_ id : Int) : Prop := 0 ≤ id ∧ ∃ x, L[id.toNat]? = some x ∧ 0 ≤ x.part ∧ (if x.part = part then x.at_ < at_ else Dm succ x.part.toNat part.toNat)
/-- May code be? -/
def chkP (f : DIr) : Prop := ((1 ≤ f.parts.length ∧ f.parts.length ≤ 8192) ∧ 0 ≤ f.values ∧ f.values ≤ 65536) ∧ waysP f ∧ ∃ L, allMk mkP (List.replicate f.values.toNat zPk) f = some L ∧ usesP (okD L (succL f)) f
open Classical in
noncomputable def chkE (f : DIr) : Int := if chkP f then 0 else 160
theorem chkE_yes {f : DIr} (h : chkP f) : chkE f = 0 := if_pos h
theorem chkE_no {f : DIr} (h : ¬ chkP f) : chkE f = 160 := if_neg h

theorem foldlM_inv {α β : Type} {g : β → α → Option β} {I : β → Prop} : ∀ {l : List α} {s t : β}, (∀ s x t, x ∈ l → I s → g s x = some t → I t) → I s → l.foldlM g s = some t → I t
  | [], s, t, _, hs, e => by
    have : s = t := Option.some.inj e
    exact this ▸ hs
  | x :: l, s, t, hg, hs, e => by
    rw [List.foldlM_cons] at e
    cases hx : g s x with
    | none => rw [hx] at e; cases e
    | some u =>
      rw [hx] at e
      exact foldlM_inv (fun s y t hy => hg s y t (by simp [hy])) (hg s x u (by simp) hs hx) e
theorem mkP_parts {n : Int} {L L' : List DPk} {id part at_ : Int} (h : mkP L id part at_ = some L') (hp : part < n) (hL : ∀ x ∈ L, x.part < n) : ∀ x ∈ L', x.part < n := by
  unfold mkP makeL at h
  split at h
  · cases h
  · injection h with h
    subst h
    intro x hx
    rcases List.mem_or_eq_of_mem_set hx with e | e
    · exact hL x e
    · rw [e]; exact hp
theorem allMk_parts {f : DIr} {L L' : List DPk} (h : allMk mkP L f = some L') (hL : ∀ x ∈ L, x.part < f.parts.length) : ∀ x ∈ L', x.part < f.parts.length := by
  refine foldlM_inv (I := fun L => ∀ x ∈ L, x.part < (f.parts.length : Int)) (fun s x t hx hs e => ?_) hL h
  have hx2 : (x.2 : Int) < f.parts.length := by
    have h1 := List.mem_zipIdx (x := x.1) (i := x.2) (k := 0) hx
    omega
  unfold partMk at e
  cases hp : x.1.phis.foldlM (phiMk mkP x.2) s with
  | none => rw [hp] at e; cases e
  | some u =>
    rw [hp] at e
    have hu : ∀ x ∈ u, x.part < f.parts.length := foldlM_inv (I := fun L => ∀ x ∈ L, x.part < (f.parts.length : Int)) (fun s y t _ hs e => mkP_parts e hx2 hs) hs hp
    refine foldlM_inv (I := fun L => ∀ x ∈ L, x.part < (f.parts.length : Int)) (fun s y t _ hs e => ?_) hu e
    unfold nodeMk at e
    split at e
    · split at e
      · injection e with e; exact e ▸ hs
      · exact mkP_parts e hx2 hs
    · cases e
theorem allMk_parts0 {f : DIr} {L : List DPk} {n : Nat} (h : allMk mkP (List.replicate n zPk) f = some L) : ∀ x ∈ L, x.part < f.parts.length :=
  allMk_parts h fun x hx => by
    rw [List.eq_of_mem_replicate hx]
    show (-1 : Int) < _
    omega
theorem usesP_congr {ok ok' : Int → Int → Int → Prop} {f : DIr} (hw : waysP f) (h : ∀ part : Int, 0 ≤ part → part < f.parts.length → ∀ at_ id, (ok part at_ id ↔ ok' part at_ id)) : usesP ok f ↔ usesP ok' f := by
  have hpd : ∀ i (hi : i < f.parts.length), ∀ a ∈ f.parts[i].pred, 0 ≤ a ∧ a < f.parts.length := fun i hi a ha => by
    rw [← (hw.2 i hi).2.1] at ha
    exact predP_mem ha
  have key : ∀ {ok ok' : Int → Int → Int → Prop}, (∀ part : Int, 0 ≤ part → part < f.parts.length → ∀ at_ id, (ok part at_ id ↔ ok' part at_ id)) → usesP ok f → usesP ok' f := fun h q i hi => by
    obtain ⟨q1, q2, q3⟩ := q i hi
    refine ⟨fun x hx => ⟨(q1 x hx).1, fun j h1 h2 => ?_⟩, fun k hk id hid => (h _ (by omega) (by omega) _ _).1 (q2 k hk id hid), fun id hid => (h _ (by omega) (by omega) _ _).1 (q3 id hid)⟩
    have := hpd i hi _ (List.getElem_mem h2)
    exact (h _ this.1 this.2 _ _).1 ((q1 x hx).2 j h1 h2)
  exact ⟨key h, key fun p h0 h1 a i => (h p h0 h1 a i).symm⟩
theorem usesU_D {f : DIr} (hne : f.parts ≠ []) (hw : waysP f) {U : List Int} (hfin : Ab.Fin (order (succL f)) (predF (succL f) (order (succL f))) (upf U)) {L : List DPk} (hL : ∀ x ∈ L, x.part < f.parts.length) : usesP (okU L U) f ↔ usesP (okD L (succL f)) f := by
  have hsl := succL_len f
  have hs0 : succL f ≠ [] := fun e => by rw [e] at hsl; exact hne (List.eq_nil_of_length_eq_zero hsl.symm)
  have hreach : ∀ a : Nat, a < f.parts.length → (a : Int) ∈ order (succL f) := fun a h1 => rw_mem hs0 (hw.2 a h1).1
  refine usesP_congr hw fun part h0 h1 at_ id => ?_
  unfold okU okP okD
  refine and_congr_right fun _ => exists_congr fun x => ?_
  constructor
  · rintro ⟨e1, e2, e3⟩
    refine ⟨e1, e2, ?_⟩
    have hx := hL x (List.mem_of_getElem? e1)
    split at e3
    · rename_i q; rw [if_pos q]; exact e3
    · rename_i q
      rw [if_neg q]
      have := (anc_dm hs0 hfin (a := x.part.toNat) (b := part.toNat) (hreach _ (by omega)) (hreach _ (by omega))).1
      rw [Int.toNat_of_nonneg e2, Int.toNat_of_nonneg h0] at this
      exact this e3
  · rintro ⟨e1, e2, e3⟩
    refine ⟨e1, e2, ?_⟩
    have hx := hL x (List.mem_of_getElem? e1)
    split at e3
    · rename_i q; rw [if_pos q]; exact e3
    · rename_i q
      rw [if_neg q]
      have := (anc_dm hs0 hfin (a := x.part.toNat) (b := part.toNat) (hreach _ (by omega)) (hreach _ (by omega))).2
      rw [Int.toNat_of_nonneg e2, Int.toNat_of_nonneg h0] at this
      exact this e3
end Go.Proofs.Ytilanageangegaa

/- Walks of package ir (4): ways. -/
set_option linter.unusedVariables false
set_option linter.unusedSimpArgs false
namespace Go.Proofs.Ytilanageangegaa
open Go.Ab

theorem range_set {n : Nat} {g g' : Int → List Int} {y : Nat} (hy : y < n) {l : List Int} (hl : g' y = l) (hne : ∀ z : Nat, z ≠ y → g' z = g z) : ((List.range n).map fun (z : Nat) => g z).set y l = (List.range n).map fun (z : Nat) => g' z := by
  apply List.ext_getElem
  · simp
  · intro i h1 h2
    rw [List.getElem_set]
    simp only [List.getElem_map, List.getElem_range]
    split
    · rename_i e; subst e; exact hl.symm
    · rename_i e; exact (hne i fun q => e q.symm).symm

set_option maxRecDepth 10000 in
theorem ways_spec (f : DIr) (pl up : AVal) (bc : Nat) (h : AHeap) (z : Sz f) (hne : f.parts ≠ []) (hc0 : h bc = some (.cells (eChk f pl up) 132 4)) : Sp Try.prog 64 [.v (ptr bc)] h (ErrIs h (waysP f) 1) := by
  have hz := z.parts
  have hsl := succL_len f
  have hs0 : succL f ≠ [] := fun e => by rw [e] at hsl; exact hne (List.eq_nil_of_length_eq_zero hsl.symm)
  refine Sp.of Try.func64 rfl rfl (by show 1 ≤ 146; decide) ?_
  (repeat (first | refine AC.seq ?_ | refine AC.block ?_ | refine AC.skip ?_))
  refine AC.region ?_
  refine AOps.step rfl rfl ?_
  refine AOp.of_run (ARun.mvV (.inr rfl) rfl) ?_
  refine AOps.nil ?_
  (repeat (first | refine AC.seq ?_ | refine AC.block ?_ | refine AC.skip ?_))
  refine AC.region ?_
  refine AOps.step rfl rfl ?_
  refine AOp.of_run (ARun.mvV (.inl rfl) rfl) ?_
  refine AOps.step rfl rfl ?_
  refine AOp.of_run (ARun.nilCheck rfl rfl) ?_
  refine AOps.step rfl rfl ?_
  refine AOp.of_run (ARun.fieldAddr rfl rfl) ?_
  refine AOps.step rfl rfl ?_
  refine AOp.of_run (ARun.fieldAddr rfl rfl) ?_
  refine AOps.step rfl rfl (AOp.of_run (ARun.load rfl rfl hc0 rfl) ?_)
  refine AOps.step rfl rfl ?_
  refine AOp.of_run (ARun.lenL rfl rfl) ?_
  refine AOps.step rfl rfl (AOp.makeSlice rfl rfl rfl (by omega) (by omega) (by omega) (fun b hb => ?_))
  refine AOps.step rfl rfl ?_
  refine AOp.of_run (ARun.mvV (.inr rfl) rfl) ?_
  refine AOps.nil ?_
  have hbc : bc ≠ b := (fresh_of hc0 hb).symm
  have hH : hset h b (some (.cells (zrep [.v (.slice none 0 0)] 1 ((f.parts.length : Int).toNat * 1)) 53 ((f.parts.length : Int).toNat * 1))) = hset h b (some (.cells (List.replicate f.parts.length (.v (.slice none 0 0))) 53 f.parts.length)) := by
    rw [Int.toNat_natCast, Nat.mul_one]
    congr 4
    apply List.ext_getElem
    · simp [zrep]
    · intro i h1 h2; simp [zrep, Nat.mod_one]
  rw [hH]
  have q0 : SOwn h 3 53 b f.parts.length ((List.range f.parts.length).map fun y => predP ((succL f).take 0) (y : Nat)) (List.replicate f.parts.length (.v (.slice none 0 0))) (hset h b (some (.cells (List.replicate f.parts.length (.v (.slice none 0 0))) 53 f.parts.length))) := by
    have := SOwn.new (e := 3) (et := 53) hb f.parts.length f.parts.length
    rw [show List.replicate f.parts.length ([] : List Int) = (List.range f.parts.length).map fun y => predP ((succL f).take 0) (y : Nat) from by
      apply List.ext_getElem
      · simp
      · intro i h1 h2; simp [predP]] at this
    exact this
  generalize hX : List.replicate f.parts.length (AVal.v (.slice none 0 0)) = X at *
  rw [Int.toNat_natCast]
  (repeat (first | refine AC.seq ?_ | refine AC.block ?_ | refine AC.skip ?_))
  refine AC.region ?_
  refine AOps.step rfl rfl ?_
  refine AOp.of_run (ARun.mvV (.inl rfl) rfl) ?_
  refine AOps.step rfl rfl ?_
  refine AOp.of_run (ARun.nilCheck rfl rfl) ?_
  refine AOps.step rfl rfl ?_
  refine AOp.of_run (ARun.fieldAddr rfl rfl) ?_
  refine AOps.step rfl rfl ?_
  refine AOp.of_run (ARun.fieldAddr rfl rfl) ?_
  refine AOps.step rfl rfl (AOp.of_run (ARun.load rfl rfl (hset_skip hbc hc0) rfl) ?_)
  refine AOps.step rfl rfl ?_
  refine AOp.of_run (ARun.lenL rfl rfl) ?_
  refine AOps.step rfl rfl ?_
  refine AOp.of_run (ARun.mvV (.inl rfl) rfl) ?_
  refine AOps.nil ?_
  (repeat (first | refine AC.seq ?_ | refine AC.block ?_ | refine AC.skip ?_ | refine AC.exit ?_))
  refine AC.loop (fun m τ h' => ∃ (i : Nat) (xs : List AVal), i ≤ f.parts.length ∧ m = f.parts.length - i ∧ Slots τ [(0, .v (ptr bc)), (3, .v (.slice (some ⟨b, 0, none⟩) f.parts.length f.parts.length)), (25, eParts f.parts), (26, eI f.parts.length), (27, eI i)] ∧
    (∀ j (hj : j < f.parts.length), j < i → endOK f.parts[j].end_ = true ∧ ∀ y ∈ next f.parts[j].end_, 0 ≤ y ∧ y < f.parts.length) ∧ SOwn h 3 53 b f.parts.length ((List.range f.parts.length).map fun y => predP ((succL f).take i) (y : Nat)) xs h') f.parts.length ?_ ?_
  · exact ⟨0, X, Nat.zero_le _, rfl, ⟨rfl, rfl, rfl, rfl, rfl, trivial⟩, fun j _ hj => by omega, q0⟩
  rintro m τ h1 ⟨i, xs, hi, rfl, hs, hall, q⟩
  obtain ⟨t0, rfl⟩ := hs.open_
  (repeat (first | refine AC.seq ?_ | refine AC.block ?_ | refine AC.skip ?_))
  refine AC.region ?_
  refine AOps.step rfl rfl ?_
  refine AOp.of_run (ARun.lss rfl rfl rfl) ?_
  refine AOps.nil ?_
  (repeat (first | refine AC.seq ?_ | refine AC.block ?_ | refine AC.skip ?_)); refine AC.cond rfl (fun hc => ?_) (fun hc => ?_)
  · have hlt : i < f.parts.length := by simpa using hc
    have hrd : rdc (f.parts.flatMap ePart) ((i : Int).toNat * 10) 10 = some (ePart f.parts[i]) := by rw [Int.toNat_natCast]; exact rdc_flatMap ePart_len hlt
    have hbad : ¬ (endOK f.parts[i].end_ = true ∧ ∀ y ∈ next f.parts[i].end_, 0 ≤ y ∧ y < f.parts.length) → ¬ waysP f := fun e w => e (w.1 _ (List.getElem_mem hlt))
    have hgood : (endOK f.parts[i].end_ = true ∧ ∀ y ∈ next f.parts[i].end_, 0 ≤ y ∧ y < f.parts.length) → ∀ j (hj : j < f.parts.length), j < i + 1 → endOK f.parts[j].end_ = true ∧ ∀ y ∈ next f.parts[j].end_, 0 ≤ y ∧ y < f.parts.length := fun e j hj hji => by
      rcases Nat.lt_or_ge j i with c | c
      · exact hall j hj c
      · obtain rfl : j = i := by omega
        exact e
    have hrow : ∃ hs : i < (succL f).length, (succL f)[i] = next f.parts[i].end_ := ⟨by omega, by simp [succL]⟩
    generalize f.parts[i] = p at *
    obtain ⟨pr, ph, nd, E⟩ := p
    dsimp only at hbad hgood hrow
    (repeat (first | refine AC.seq ?_ | refine AC.block ?_ | refine AC.skip ?_ | refine AC.exit ?_))
    (repeat (first | refine AC.seq ?_ | refine AC.block ?_ | refine AC.skip ?_))
    refine AC.region ?_
    refine AOps.step rfl rfl ?_
    refine AOp.of_run (ARun.mvV (.inl rfl) rfl) ?_
    refine AOps.step rfl rfl ?_
    refine AOp.of_run (ARun.indexAddrL rfl rfl rfl (by omega) (by omega)) ?_
    refine AOps.step rfl rfl (AOp.of_run (ARun.loadNL rfl rfl hrd) ?_)
    refine AOps.step rfl rfl (AOp.alloc rfl (fun b5 hb5 => ?_))
    refine AOps.step rfl rfl ?_
    refine AOp.of_run (ARun.mvV (.inr rfl) rfl) ?_
    refine AOps.step rfl rfl (AOp.store rfl rfl (hset_same _ _ _) rfl ?_)
    refine AOps.nil ?_
    refine AC.le (Le.freezeNew (d := 5) hb5 rfl) ?_
    (repeat (first | refine AC.seq ?_ | refine AC.block ?_ | refine AC.skip ?_))
    refine AC.region ?_
    refine AOps.step rfl rfl ?_
    refine AOp.of_run (ARun.fieldAddrL rfl rfl) ?_
    refine AOps.step rfl rfl (AOp.of_run (ARun.loadNL rfl rfl rfl) ?_)
    refine AOps.step rfl rfl (AOp.alloc rfl (fun b6 hb6 => ?_))
    refine AOps.step rfl rfl (AOp.store rfl rfl (hset_same _ _ _) rfl ?_)
    refine AOps.nil ?_
    refine AC.le (Le.freezeNew (d := 6) hb6 rfl) ?_
    (repeat (first | refine AC.seq ?_ | refine AC.block ?_ | refine AC.skip ?_))
    refine AC.region ?_
    refine AOps.step rfl rfl ?_
    refine AOp.of_run (ARun.fieldAddrL rfl rfl) ?_
    refine AOps.step rfl rfl ?_
    refine AOp.of_run (ARun.loadL rfl rfl rfl) ?_
    refine AOps.step rfl rfl (AOp.call_ rfl rfl ((Cond0_spec E.cond _).mono ?_))
    rintro _ _ ⟨⟨v, rfl⟩, rfl⟩
    refine AOps.step rfl rfl ?_
    refine AOp.of_run (ARun.mvT (.inl rfl) rfl) ?_
    refine AOps.step rfl rfl (AOp.of_run (ARun.extract rfl rfl rfl) ?_)
    refine AOps.step rfl rfl ?_
    refine AOp.of_run (ARun.extract rfl rfl rfl) ?_
    refine AOps.step rfl rfl ?_
    refine AOp.of_run (ARun.assign rfl) ?_
    refine AOps.step rfl rfl ?_
    refine AOp.of_run (ARun.mvV (.inr rfl) rfl) ?_
    refine AOps.nil ?_
    rename_i h1
    (repeat (first | refine AC.seq ?_ | refine AC.block ?_ | refine AC.skip ?_ | refine AC.exit ?_))
    refine AC.mono (Q := fun ex τ h2 => ex = .normal ∧ h2 = h1 ∧ Slots τ [(0, .v (ptr bc)), (3, .v (.slice (some ⟨b, 0, none⟩) f.parts.length f.parts.length)), (4, eI i), (5, .lp (ePart ⟨pr, ph, nd, E⟩) 0), (6, .lp (eTerm E) 0), (25, eParts f.parts), (26, eI f.parts.length), (27, eI i), (63, eB (!endOK E))]) ?_ ?_
    · unfold endOK
      (repeat (first | refine AC.seq ?_ | refine AC.block ?_ | refine AC.skip ?_))
      refine AC.region ?_
      refine AOps.step rfl rfl ?_
      refine AOp.of_run (ARun.fieldAddrL rfl rfl) ?_
      refine AOps.step rfl rfl ?_
      refine AOp.of_run (ARun.loadL rfl rfl rfl) ?_
      refine AOps.step rfl rfl ?_
      refine AOp.of_run (ARun.lss rfl rfl rfl) ?_
      rw [dec_lt E.op 1]
      cases g1 : decide (1 ≤ E.op)
      · refine AOps.step rfl rfl ?_
        refine AOp.of_run (ARun.mvV (.inl rfl) rfl) ?_
        refine AOps.passU rfl rfl (by decide) rfl rfl rfl ?_
        refine AOps.passU rfl rfl (by decide) rfl rfl rfl ?_
        refine AOps.passU rfl rfl (by decide) rfl rfl rfl ?_
        refine AOps.step rfl rfl (AOp.of_run (ARun.pickT rfl rfl) ?_)
        refine AOps.step rfl rfl ?_
        refine AOp.of_run (ARun.mvV (.inl rfl) rfl) ?_
        refine AOps.passU rfl rfl (by decide) rfl rfl rfl ?_
        refine AOps.passU rfl rfl (by decide) rfl rfl rfl ?_
        refine AOps.passU rfl rfl (by decide) rfl rfl rfl ?_
        refine AOps.passU rfl rfl (by decide) rfl rfl rfl ?_
        refine AOps.passU rfl rfl (by decide) rfl rfl rfl ?_
        refine AOps.passU rfl rfl (by decide) rfl rfl rfl ?_
        refine AOps.passU rfl rfl (by decide) rfl rfl rfl ?_
        refine AOps.passU rfl rfl (by decide) rfl rfl rfl ?_
        refine AOps.passU rfl rfl (by decide) rfl rfl rfl ?_
        refine AOps.passU rfl rfl (by decide) rfl rfl rfl ?_
        refine AOps.passU rfl rfl (by decide) rfl rfl rfl ?_
        refine AOps.passU rfl rfl (by decide) rfl rfl rfl ?_
        refine AOps.passU rfl rfl (by decide) rfl rfl rfl ?_
        refine AOps.passU rfl rfl (by decide) rfl rfl rfl ?_
        refine AOps.step rfl rfl (AOp.of_run (ARun.pickT rfl rfl) ?_)
        refine AOps.nil ?_
        exact ⟨rfl, rfl, rfl, rfl, rfl, rfl, rfl, rfl, rfl, rfl, rfl, trivial⟩
      refine AOps.step rfl rfl ?_
      refine AOp.of_run (ARun.mvV (.inl rfl) rfl) ?_
      refine AOps.want rfl rfl (by decide) rfl ?_
      refine AOps.step rfl rfl ?_
      refine AOp.of_run (ARun.fieldAddrL rfl rfl) ?_
      refine AOps.want rfl rfl (by decide) rfl ?_
      refine AOps.step rfl rfl ?_
      refine AOp.of_run (ARun.loadL rfl rfl rfl) ?_
      refine AOps.want rfl rfl (by decide) rfl ?_
      refine AOps.step rfl rfl ?_
      refine AOp.of_run (ARun.gtr rfl rfl rfl) ?_
      rw [dec_lt 3 E.op]
      cases g2 : decide (E.op ≤ 3)
      · refine AOps.step rfl rfl (AOp.of_run (ARun.pickF rfl rfl) ?_)
        refine AOps.step rfl rfl ?_
        refine AOp.of_run (ARun.mvV (.inl rfl) rfl) ?_
        refine AOps.passU rfl rfl (by decide) rfl rfl rfl ?_
        refine AOps.passU rfl rfl (by decide) rfl rfl rfl ?_
        refine AOps.passU rfl rfl (by decide) rfl rfl rfl ?_
        refine AOps.passU rfl rfl (by decide) rfl rfl rfl ?_
        refine AOps.passU rfl rfl (by decide) rfl rfl rfl ?_
        refine AOps.passU rfl rfl (by decide) rfl rfl rfl ?_
        refine AOps.passU rfl rfl (by decide) rfl rfl rfl ?_
        refine AOps.passU rfl rfl (by decide) rfl rfl rfl ?_
        refine AOps.passU rfl rfl (by decide) rfl rfl rfl ?_
        refine AOps.passU rfl rfl (by decide) rfl rfl rfl ?_
        refine AOps.passU rfl rfl (by decide) rfl rfl rfl ?_
        refine AOps.passU rfl rfl (by decide) rfl rfl rfl ?_
        refine AOps.passU rfl rfl (by decide) rfl rfl rfl ?_
        refine AOps.passU rfl rfl (by decide) rfl rfl rfl ?_
        refine AOps.step rfl rfl (AOp.of_run (ARun.pickT rfl rfl) ?_)
        refine AOps.nil ?_
        exact ⟨rfl, rfl, rfl, rfl, rfl, rfl, rfl, rfl, rfl, rfl, rfl, trivial⟩
      refine AOps.step rfl rfl (AOp.of_run (ARun.pickF rfl rfl) ?_)
      refine AOps.step rfl rfl ?_
      refine AOp.of_run (ARun.mvV (.inl rfl) rfl) ?_
      refine AOps.want rfl rfl (by decide) rfl ?_
      refine AOps.step rfl rfl ?_
      refine AOp.of_run (ARun.fieldAddrL rfl rfl) ?_
      refine AOps.want rfl rfl (by decide) rfl ?_
      refine AOps.step rfl rfl ?_
      refine AOp.of_run (ARun.loadL rfl rfl rfl) ?_
      refine AOps.want rfl rfl (by decide) rfl ?_
      refine AOps.step rfl rfl ?_
      refine AOp.of_run (ARun.eql rfl rfl rfl) ?_
      cases g3 : decide (E.op = 2)
      · refine AOps.want rfl rfl (by decide) rfl ?_
        refine AOps.step rfl rfl ?_
        refine AOp.of_run (ARun.mvV (.inl rfl) rfl) ?_
        refine AOps.passU rfl rfl (by decide) rfl rfl rfl ?_
        refine AOps.passU rfl rfl (by decide) rfl rfl rfl ?_
        refine AOps.passU rfl rfl (by decide) rfl rfl rfl ?_
        refine AOps.passU rfl rfl (by decide) rfl rfl rfl ?_
        refine AOps.passU rfl rfl (by decide) rfl rfl rfl ?_
        refine AOps.passU rfl rfl (by decide) rfl rfl rfl ?_
        refine AOps.passU rfl rfl (by decide) rfl rfl rfl ?_
        refine AOps.passU rfl rfl (by decide) rfl rfl rfl ?_
        refine AOps.passU rfl rfl (by decide) rfl rfl rfl ?_
        refine AOps.want rfl rfl (by decide) rfl ?_
        refine AOps.step rfl rfl (AOp.of_run (ARun.pickF rfl rfl) ?_)
        refine AOps.step rfl rfl (AOp.of_run (ARun.pickF rfl rfl) ?_)
        refine AOps.nil ?_
        exact ⟨rfl, rfl, rfl, rfl, rfl, rfl, rfl, rfl, rfl, rfl, rfl, trivial⟩
      cases g4 : condB E.cond
      · refine AOps.want rfl rfl (by decide) rfl ?_
        refine AOps.step rfl rfl ?_
        refine AOp.of_run (ARun.mvV (.inl rfl) rfl) ?_
        refine AOps.want rfl rfl (by decide) rfl ?_
        refine AOps.step rfl rfl ?_
        refine AOp.of_run (ARun.mvV (.inl rfl) rfl) ?_
        refine AOps.want rfl rfl (by decide) rfl ?_
        refine AOps.step rfl rfl ?_
        refine AOp.of_run (ARun.not rfl rfl) ?_
        refine AOps.want rfl rfl (by decide) rfl ?_
        refine AOps.step rfl rfl ?_
        refine AOp.of_run (ARun.mvV (.inl rfl) rfl) ?_
        refine AOps.passU rfl rfl (by decide) rfl rfl rfl ?_
        refine AOps.passU rfl rfl (by decide) rfl rfl rfl ?_
        refine AOps.passU rfl rfl (by decide) rfl rfl rfl ?_
        refine AOps.passU rfl rfl (by decide) rfl rfl rfl ?_
        refine AOps.passU rfl rfl (by decide) rfl rfl rfl ?_
        refine AOps.want rfl rfl (by decide) rfl ?_
        refine AOps.step rfl rfl (AOp.of_run (ARun.pickT rfl rfl) ?_)
        refine AOps.want rfl rfl (by decide) rfl ?_
        refine AOps.step rfl rfl (AOp.of_run (ARun.pickT rfl rfl) ?_)
        refine AOps.step rfl rfl (AOp.of_run (ARun.pickF rfl rfl) ?_)
        refine AOps.nil ?_
        exact ⟨rfl, rfl, rfl, rfl, rfl, rfl, rfl, rfl, rfl, rfl, rfl, trivial⟩
      refine AOps.want rfl rfl (by decide) rfl ?_
      refine AOps.step rfl rfl ?_
      refine AOp.of_run (ARun.mvV (.inl rfl) rfl) ?_
      refine AOps.want rfl rfl (by decide) rfl ?_
      refine AOps.step rfl rfl ?_
      refine AOp.of_run (ARun.mvV (.inl rfl) rfl) ?_
      refine AOps.want rfl rfl (by decide) rfl ?_
      refine AOps.step rfl rfl ?_
      refine AOp.of_run (ARun.not rfl rfl) ?_
      refine AOps.want rfl rfl (by decide) rfl ?_
      refine AOps.step rfl rfl ?_
      refine AOp.of_run (ARun.mvV (.inl rfl) rfl) ?_
      refine AOps.want rfl rfl (by decide) rfl ?_
      refine AOps.step rfl rfl ?_
      refine AOp.of_run (ARun.fieldAddrL rfl rfl) ?_
      refine AOps.want rfl rfl (by decide) rfl ?_
      refine AOps.step rfl rfl ?_
      refine AOp.of_run (ARun.loadL rfl rfl rfl) ?_
      refine AOps.want rfl rfl (by decide) rfl ?_
      refine AOps.step rfl rfl ?_
      refine AOp.of_run (ARun.fieldAddrL rfl rfl) ?_
      refine AOps.want rfl rfl (by decide) rfl ?_
      refine AOps.step rfl rfl ?_
      refine AOp.of_run (ARun.loadL rfl rfl rfl) ?_
      refine AOps.want rfl rfl (by decide) rfl ?_
      refine AOps.step rfl rfl ?_
      refine AOp.of_run (ARun.eql rfl rfl rfl) ?_
      cases g5 : decide (E.to = E.els)
      · refine AOps.want rfl rfl (by decide) rfl ?_
        refine AOps.step rfl rfl (AOp.of_run (ARun.pickF rfl rfl) ?_)
        refine AOps.want rfl rfl (by decide) rfl ?_
        refine AOps.step rfl rfl (AOp.of_run (ARun.pickT rfl rfl) ?_)
        refine AOps.step rfl rfl (AOp.of_run (ARun.pickF rfl rfl) ?_)
        refine AOps.nil ?_
        exact ⟨rfl, rfl, rfl, rfl, rfl, rfl, rfl, rfl, rfl, rfl, rfl, trivial⟩
      · refine AOps.want rfl rfl (by decide) rfl ?_
        refine AOps.step rfl rfl (AOp.of_run (ARun.pickF rfl rfl) ?_)
        refine AOps.want rfl rfl (by decide) rfl ?_
        refine AOps.step rfl rfl (AOp.of_run (ARun.pickT rfl rfl) ?_)
        refine AOps.step rfl rfl (AOp.of_run (ARun.pickF rfl rfl) ?_)
        refine AOps.nil ?_
        exact ⟨rfl, rfl, rfl, rfl, rfl, rfl, rfl, rfl, rfl, rfl, rfl, trivial⟩
    rintro _ τ _ ⟨rfl, rfl, hs⟩
    obtain ⟨t1, rfl⟩ := hs.open_
    (repeat (first | refine AC.seq ?_ | refine AC.block ?_ | refine AC.skip ?_)); refine AC.cond rfl (fun hc => ?_) (fun hc => ?_)
    · (repeat (first | refine AC.seq ?_ | refine AC.block ?_ | refine AC.skip ?_))
      refine AC.region ?_
      refine AOps.step rfl rfl ?_
      refine AOp.of_run (ARun.mvV (.inl rfl) rfl) ?_
      refine AOps.step rfl rfl ?_
      refine AOp.of_run (ARun.build rfl) ?_
      refine AOps.step rfl rfl (AOp.box rfl rfl (fun br hbr => ?_))
      refine AOps.step rfl rfl ?_
      refine AOp.of_run (ARun.mkI rfl (by kernel_rfl) rfl) ?_
      refine AOps.step rfl rfl ?_
      refine AOp.of_run (ARun.mvV (.inr rfl) rfl) ?_
      refine AOps.nil ?_
      refine AC.ret (ARes.le (Le.sub (HSub.both q.sub _ _)) (ARes.one rfl (RV.V rfl) (.inr ⟨hbad fun e => ?_, br, i, rfl, q.sub.none hbr, rfl⟩)))
      rw [e.1] at hc; cases hc
    have hok : endOK E = true := by simpa using hc
    (repeat (first | refine AC.seq ?_ | refine AC.block ?_ | refine AC.skip ?_ | refine AC.exit ?_))
    (repeat (first | refine AC.seq ?_ | refine AC.block ?_ | refine AC.skip ?_))
    refine AC.region ?_
    refine AOps.step rfl rfl ?_
    refine AOp.of_run (ARun.loadNL rfl rfl rfl) ?_
    refine AOps.step rfl rfl (AOp.call_ rfl rfl ((next_spec E _).mono ?_))
    rintro _ _ ⟨rfl, rfl⟩
    have hR2 := next_len E
    generalize hR : next E = R at *
    obtain ⟨hsi, hrow⟩ := hrow
    refine AOps.step rfl rfl ?_
    refine AOp.of_run (ARun.lenL rfl rfl) ?_
    refine AOps.step rfl rfl ?_
    refine AOp.of_run (ARun.mvV (.inl rfl) rfl) ?_
    refine AOps.nil ?_
    (repeat (first | refine AC.seq ?_ | refine AC.block ?_ | refine AC.skip ?_ | refine AC.exit ?_))
    rename_i h1
    refine AC.loop (fun m τ h' => ∃ (j : Nat) (xs : List AVal), j ≤ R.length ∧ m = R.length - j ∧ Slots τ [(0, .v (ptr bc)), (3, .v (.slice (some ⟨b, 0, none⟩) f.parts.length f.parts.length)), (4, eI i), (5, .lp (ePart ⟨pr, ph, nd, E⟩) 0), (6, .lp (eTerm E) 0), (25, eParts f.parts), (26, eI f.parts.length), (27, eI i), (69, eIs R), (70, eI R.length), (71, eI j)] ∧
      (∀ y ∈ R.take j, 0 ≤ y ∧ y < f.parts.length) ∧ SOwn h 3 53 b f.parts.length ((List.range f.parts.length).map fun y => stageP (succL f) i R j (y : Nat)) xs h') R.length ?_ ?_
    · exact ⟨0, xs, Nat.zero_le _, rfl, ⟨rfl, rfl, rfl, rfl, rfl, rfl, rfl, rfl, rfl, rfl, rfl, trivial⟩, fun y hy => by simp at hy, by simpa only [stageP_zero] using q⟩
    rintro m τ h2 ⟨j, xs, hj, rfl, hs, hin, q⟩
    obtain ⟨t2, rfl⟩ := hs.open_
    (repeat (first | refine AC.seq ?_ | refine AC.block ?_ | refine AC.skip ?_))
    refine AC.region ?_
    refine AOps.step rfl rfl ?_
    refine AOp.of_run (ARun.lss rfl rfl rfl) ?_
    refine AOps.nil ?_
    (repeat (first | refine AC.seq ?_ | refine AC.block ?_ | refine AC.skip ?_)); refine AC.cond rfl (fun hc => ?_) (fun hc => ?_)
    · have hlt2 : j < R.length := by simpa using hc
      have hstep := fun y => stageP_succ (succ := succL f) (i := i) hlt2 y
      have hbad2 : ¬ (0 ≤ R[j] ∧ R[j] < f.parts.length) → ¬ waysP f := fun e => hbad fun g => e (g.2 _ (List.getElem_mem hlt2))
      have hin2 : (0 ≤ R[j] ∧ R[j] < f.parts.length) → ∀ y ∈ R.take (j + 1), 0 ≤ y ∧ y < f.parts.length := fun e y hy => by
        rcases (take_succ_mem hlt2 y).1 hy with c | c
        · exact hin y c
        · rw [c]; exact e
      (repeat (first | refine AC.seq ?_ | refine AC.block ?_ | refine AC.skip ?_ | refine AC.exit ?_))
      (repeat (first | refine AC.seq ?_ | refine AC.block ?_ | refine AC.skip ?_))
      refine AC.region ?_
      refine AOps.step rfl rfl ?_
      refine AOp.of_run (ARun.indexAddrL rfl rfl rfl (by omega) (by omega)) ?_
      refine AOps.step rfl rfl ?_
      refine AOp.of_run (ARun.loadL rfl rfl (get_map hlt2)) ?_
      refine AOps.step rfl rfl ?_
      refine AOp.of_run (ARun.mvV (.inr rfl) rfl) ?_
      refine AOps.nil ?_
      generalize R[j] = to at *
      (repeat (first | refine AC.seq ?_ | refine AC.block ?_ | refine AC.skip ?_ | refine AC.exit ?_))
      refine AC.mono (Q := fun ex τ h3 => ex = .normal ∧ h3 = h2 ∧ Slots τ [(0, .v (ptr bc)), (3, .v (.slice (some ⟨b, 0, none⟩) f.parts.length f.parts.length)), (4, eI i), (5, .lp (ePart ⟨pr, ph, nd, E⟩) 0), (6, .lp (eTerm E) 0), (10, eI to), (25, eParts f.parts), (26, eI f.parts.length), (27, eI i), (69, eIs R), (70, eI R.length), (71, eI j), (82, eB (!(decide (0 ≤ to) && decide (to < f.parts.length))))]) ?_ ?_
      · (repeat (first | refine AC.seq ?_ | refine AC.block ?_ | refine AC.skip ?_))
        refine AC.region ?_
        refine AOps.step rfl rfl ?_
        refine AOp.of_run (ARun.mvV (.inl rfl) rfl) ?_
        refine AOps.step rfl rfl ?_
        refine AOp.of_run (ARun.lss rfl rfl rfl) ?_
        rw [dec_lt to 0]
        cases g1 : decide (0 ≤ to)
        · refine AOps.step rfl rfl ?_
          refine AOp.of_run (ARun.mvV (.inl rfl) rfl) ?_
          refine AOps.passU rfl rfl (by decide) rfl rfl rfl ?_
          refine AOps.passU rfl rfl (by decide) rfl rfl rfl ?_
          refine AOps.passU rfl rfl (by decide) rfl rfl rfl ?_
          refine AOps.passU rfl rfl (by decide) rfl rfl rfl ?_
          refine AOps.step rfl rfl (AOp.of_run (ARun.pickT rfl rfl) ?_)
          refine AOps.nil ?_
          exact ⟨rfl, rfl, rfl, rfl, rfl, rfl, rfl, rfl, rfl, rfl, rfl, rfl, rfl, rfl, rfl, trivial⟩
        · refine AOps.step rfl rfl ?_
          refine AOp.of_run (ARun.mvV (.inl rfl) rfl) ?_
          refine AOps.want rfl rfl (by decide) rfl ?_
          refine AOps.step rfl rfl ?_
          refine AOp.of_run (ARun.mvV (.inl rfl) rfl) ?_
          refine AOps.want rfl rfl (by decide) rfl ?_
          refine AOps.step rfl rfl ?_
          refine AOp.of_run (ARun.mvV (.inl rfl) rfl) ?_
          refine AOps.want rfl rfl (by decide) rfl ?_
          refine AOps.step rfl rfl ?_
          refine AOp.of_run (ARun.lenV rfl rfl) ?_
          refine AOps.want rfl rfl (by decide) rfl ?_
          refine AOps.step rfl rfl ?_
          refine AOp.of_run (ARun.geq rfl rfl rfl) ?_
          refine AOps.step rfl rfl (AOp.of_run (ARun.pickF rfl rfl) ?_)
          refine AOps.nil ?_
          rw [dec_le f.parts.length to]
          exact ⟨rfl, rfl, rfl, rfl, rfl, rfl, rfl, rfl, rfl, rfl, rfl, rfl, rfl, rfl, rfl, trivial⟩
      rintro _ τ _ ⟨rfl, rfl, hs⟩
      obtain ⟨t3, rfl⟩ := hs.open_
      (repeat (first | refine AC.seq ?_ | refine AC.block ?_ | refine AC.skip ?_)); refine AC.cond rfl (fun hc => ?_) (fun hc => ?_)
      · (repeat (first | refine AC.seq ?_ | refine AC.block ?_ | refine AC.skip ?_))
        refine AC.region ?_
        refine AOps.step rfl rfl ?_
        refine AOp.of_run (ARun.mvV (.inl rfl) rfl) ?_
        refine AOps.step rfl rfl ?_
        refine AOp.of_run (ARun.build rfl) ?_
        refine AOps.step rfl rfl (AOp.box rfl rfl (fun br hbr => ?_))
        refine AOps.step rfl rfl ?_
        refine AOp.of_run (ARun.mkI rfl (by kernel_rfl) rfl) ?_
        refine AOps.step rfl rfl ?_
        refine AOp.of_run (ARun.mvV (.inr rfl) rfl) ?_
        refine AOps.nil ?_
        refine AC.ret (ARes.le (Le.sub (HSub.both q.sub _ _)) (ARes.one rfl (RV.V rfl) (.inr ⟨hbad2 fun e => ?_, br, i, rfl, q.sub.none hbr, rfl⟩)))
        rw [decide_eq_true e.1, decide_eq_true e.2] at hc; cases hc
      have hto : 0 ≤ to ∧ to < f.parts.length := by simpa using hc
      obtain ⟨y, rfl⟩ : ∃ y : Nat, to = y := ⟨to.toNat, by omega⟩
      have hy : y < f.parts.length := by omega
      have hyr : y < ((List.range f.parts.length).map fun y => stageP (succL f) i R j (y : Nat)).length := by simpa using hy
      obtain ⟨hHb, x, H1, hx, ho1, hput⟩ := q.at_ hyr
      have hxl := q.len
      rw [List.length_map, List.length_range] at hxl
      rw [List.getElem_map, List.getElem_range] at ho1
      have hlen := stageP_len f i j R hR2 hi (y : Nat)
      have hx2 : xs[0 + (y : Int).toNat * 1]? = some x := by rw [Nat.zero_add, Int.toNat_natCast, Nat.mul_one]; exact hx
      rename_i h2
      (repeat (first | refine AC.seq ?_ | refine AC.block ?_ | refine AC.skip ?_ | refine AC.exit ?_))
      (repeat (first | refine AC.seq ?_ | refine AC.block ?_ | refine AC.skip ?_))
      refine AC.region ?_
      refine AOps.step rfl rfl ?_
      refine AOp.of_run (ARun.mvV (.inl rfl) rfl) ?_
      refine AOps.step rfl rfl ?_
      refine AOp.of_run (ARun.mvV (.inl rfl) rfl) ?_
      refine AOps.step rfl rfl ?_
      refine AOp.of_run (ARun.mvV (.inl rfl) rfl) ?_
      refine AOps.step rfl rfl ?_
      refine AOp.of_run (ARun.mvV (.inl rfl) rfl) ?_
      refine AOps.step rfl rfl ?_
      refine AOp.of_run (ARun.indexAddr rfl rfl rfl (by omega) (by omega)) ?_
      refine AOps.step rfl rfl (AOp.of_run (ARun.load rfl rfl hHb hx2) ?_)
      refine AOps.step rfl rfl ?_
      refine AOp.of_run (ARun.mvV (.inl rfl) rfl) ?_
      refine AOps.step rfl rfl ?_
      refine AOp.buildSlice rfl ?_
      refine AOps.step rfl rfl (AOp.append rfl ho1 (RdSl.ls (by rfl)) (by unfold maxLen; omega) (by omega) fun x' h4 ho2 => ?_)
      obtain ⟨ax, cx, rfl, _⟩ := ho2.isSlice
      obtain ⟨hb2, q2⟩ := hput (stageP (succL f) i R j (y : Nat) ++ [(i : Int)]) _ h4 (by rw [List.length_append, List.map_append]; exact ho2)
      refine AOps.step rfl rfl ?_
      refine AOp.of_run (ARun.indexAddr rfl rfl rfl (by omega) (by omega)) ?_
      refine AOps.step rfl rfl (AOp.store1 rfl rfl hb2 rfl (by rw [Nat.zero_add, Int.toNat_natCast, Nat.mul_one, hxl]; exact hy) ?_)
      refine AOps.nil ?_
      rw [Nat.zero_add, Int.toNat_natCast, Nat.mul_one]
      (repeat (first | refine AC.seq ?_ | refine AC.block ?_ | refine AC.skip ?_ | refine AC.exit ?_))
      (repeat (first | refine AC.seq ?_ | refine AC.block ?_ | refine AC.skip ?_))
      refine AC.region ?_
      refine AOps.step rfl rfl ?_
      refine AOp.of_run (ARun.add rfl rfl rfl) ?_
      refine AOps.step rfl rfl ?_
      refine AOp.of_run (ARun.mvV (.inl rfl) rfl) ?_
      refine AOps.nil ?_
      refine ⟨_, by omega, j + 1, xs.set y (.v (.slice ax ((stageP (succL f) i R j (y : Nat)).length + 1) cx)), hlt2, rfl, ⟨rfl, rfl, rfl, rfl, rfl, rfl, rfl, rfl, rfl, rfl, eI_wrap (by omega) (by omega) (by omega), trivial⟩, hin2 hto, ?_⟩
      rw [range_set (g' := fun y => stageP (succL f) i R (j + 1) y) hy (by rw [hstep, if_pos rfl]) (fun z hz => by rw [hstep, if_neg (fun e => hz (by omega))])] at q2
      exact q2
    have hge : j = R.length := by simp at hc; omega
    subst hge
    rw [List.take_length] at hin
    have hnx : ∀ y, stageP (succL f) i R R.length y = predP ((succL f).take (i + 1)) y := fun y => by
      have := stageP_end hsi (j := R.length) (by rw [hrow]; exact Nat.le_refl _) y
      rw [hrow] at this; exact this
    simp only [hnx] at q
    (repeat (first | refine AC.seq ?_ | refine AC.block ?_ | refine AC.skip ?_ | refine AC.exit ?_))
    (repeat (first | refine AC.seq ?_ | refine AC.block ?_ | refine AC.skip ?_))
    refine AC.region ?_
    refine AOps.step rfl rfl ?_
    refine AOp.of_run (ARun.add rfl rfl rfl) ?_
    refine AOps.step rfl rfl ?_
    refine AOp.of_run (ARun.mvV (.inl rfl) rfl) ?_
    refine AOps.nil ?_
    exact ⟨_, by omega, i + 1, xs, hlt, rfl, ⟨rfl, rfl, rfl, rfl, eI_wrap (by omega) (by omega) (by omega), trivial⟩, hgood ⟨hok, hin⟩, q⟩
  have hge : i = f.parts.length := by simp at hc; omega
  subst hge
  rw [take_all (Nat.le_of_eq hsl)] at q
  refine AC.le q.freeze ?_
  refine AC.le (Le.freezeMade (d := 3) rfl (Nat.le_refl _) (hset_same _ _ _)) ?_
  rw [hset_hset, hset_id hb]
  have hhall : ∀ p ∈ f.parts, endOK p.end_ = true ∧ ∀ y ∈ next p.end_, 0 ≤ y ∧ y < f.parts.length := fun p hp => by
    obtain ⟨j, hj, rfl⟩ := List.getElem_of_mem hp
    exact hall j hj hj
  (repeat (first | refine AC.seq ?_ | refine AC.block ?_ | refine AC.skip ?_ | refine AC.exit ?_))
  (repeat (first | refine AC.seq ?_ | refine AC.block ?_ | refine AC.skip ?_))
  refine AC.region ?_
  refine AOps.step rfl rfl ?_
  refine AOp.of_run (ARun.mvV (.inl rfl) rfl) ?_
  refine AOps.step rfl rfl ?_
  refine AOp.of_run (ARun.nilCheck rfl rfl) ?_
  refine AOps.step rfl rfl ?_
  refine AOp.of_run (ARun.fieldAddr rfl rfl) ?_
  refine AOps.step rfl rfl (AOp.of_run (ARun.loadN rfl rfl hc0 rfl) ?_)
  refine AOps.step rfl rfl (AOp.call_ rfl rfl ((Succ_spec f _ (by omega)).mono ?_))
  rintro _ _ ⟨rfl, rfl⟩
  refine AOps.step rfl rfl (AOp.call_ rfl rfl ((Reach_spec (succL f) _ (by omega) (fun l hl => by have := succL_rows f l hl; omega)).mono ?_))
  rintro _ _ ⟨⟨S, rfl, hSl, hS⟩, rfl⟩
  refine AOps.step rfl rfl ?_
  refine AOp.of_run (ARun.mvL (.inr rfl) rfl) ?_
  refine AOps.nil ?_
  (repeat (first | refine AC.seq ?_ | refine AC.block ?_ | refine AC.skip ?_))
  refine AC.region ?_
  refine AOps.step rfl rfl ?_
  refine AOp.of_run (ARun.mvV (.inl rfl) rfl) ?_
  refine AOps.step rfl rfl ?_
  refine AOp.of_run (ARun.nilCheck rfl rfl) ?_
  refine AOps.step rfl rfl ?_
  refine AOp.of_run (ARun.fieldAddr rfl rfl) ?_
  refine AOps.step rfl rfl ?_
  refine AOp.of_run (ARun.fieldAddr rfl rfl) ?_
  refine AOps.step rfl rfl (AOp.of_run (ARun.load rfl rfl hc0 rfl) ?_)
  refine AOps.step rfl rfl ?_
  refine AOp.of_run (ARun.lenL rfl rfl) ?_
  refine AOps.step rfl rfl ?_
  refine AOp.of_run (ARun.mvV (.inl rfl) rfl) ?_
  refine AOps.nil ?_
  (repeat (first | refine AC.seq ?_ | refine AC.block ?_ | refine AC.skip ?_ | refine AC.exit ?_))
  rename_i h
  refine AC.loop (fun m τ h' => ∃ i : Nat, i ≤ f.parts.length ∧ m = f.parts.length - i ∧ Slots τ [(0, .v (ptr bc)), (3, .ls f.parts.length (((List.range f.parts.length).map fun y => predP (succL f) (y : Nat)).map eIs)), (11, eBs S), (109, eParts f.parts), (110, eI f.parts.length), (111, eI i)] ∧
    (∀ j (hj : j < f.parts.length), j < i → RW (succL f) (-1) j ∧ predP (succL f) j = f.parts[j].pred ∧ (j = 0 → f.parts[j].pred = [])) ∧ h' = h) f.parts.length ?_ ?_
  · exact ⟨0, Nat.zero_le _, rfl, ⟨rfl, rfl, rfl, rfl, rfl, rfl, trivial⟩, fun j _ hj => by omega, rfl⟩
  rintro m τ h' ⟨i, hi, rfl, hs, hall2, rfl⟩
  obtain ⟨t1, rfl⟩ := hs.open_
  (repeat (first | refine AC.seq ?_ | refine AC.block ?_ | refine AC.skip ?_))
  refine AC.region ?_
  refine AOps.step rfl rfl ?_
  refine AOp.of_run (ARun.lss rfl rfl rfl) ?_
  refine AOps.nil ?_
  (repeat (first | refine AC.seq ?_ | refine AC.block ?_ | refine AC.skip ?_)); refine AC.cond rfl (fun hc => ?_) (fun hc => ?_)
  · have hlt : i < f.parts.length := by simpa using hc
    have hrd : rdc (f.parts.flatMap ePart) ((i : Int).toNat * 10) 10 = some (ePart f.parts[i]) := by rw [Int.toNat_natCast]; exact rdc_flatMap ePart_len hlt
    have hbad : ¬ (RW (succL f) (-1) i ∧ predP (succL f) i = f.parts[i].pred ∧ (i = 0 → f.parts[i].pred = [])) → ¬ waysP f := fun e w => e (w.2 i hlt)
    have hgood : (RW (succL f) (-1) i ∧ predP (succL f) i = f.parts[i].pred ∧ (i = 0 → f.parts[i].pred = [])) → ∀ j (hj : j < f.parts.length), j < i + 1 → RW (succL f) (-1) j ∧ predP (succL f) j = f.parts[j].pred ∧ (j = 0 → f.parts[j].pred = []) := fun e j hj hji => by
      rcases Nat.lt_or_ge j i with c | c
      · exact hall2 j hj c
      · obtain rfl : j = i := by omega
        exact e
    have hpl := predP_len (succL f) 0 (i : Int) (succL_rows f)
    have zp := z.part _ (List.getElem_mem hlt)
    generalize f.parts[i] = p at *
    have hpr := zp.pred
    have g2 : (((List.range f.parts.length).map fun y => predP (succL f) (y : Nat)).map eIs)[(i : Int).toNat * 1]? = some (eIs (predP (succL f) i)) := by
      rw [Int.toNat_natCast, Nat.mul_one, List.getElem?_map, List.getElem?_map, List.getElem?_range hlt]; rfl
    have hPl : (predP (succL f) (i : Int)).length ≤ 100000 := by unfold predP; omega
    have hre : S[i]? = some (decide ((i : Int) ∈ order (succL f))) := hS i (by omega)
    have g1 : ∀ v, decide ((i : Int) ∈ order (succL f)) = v → (S.map eB)[(i : Int).toNat * 1]? = some (eB v) := fun v hv => by
      rw [Int.toNat_natCast, Nat.mul_one, List.getElem?_map, hre, hv]; rfl
    generalize hP : predP (succL f) (i : Int) = Q at *
    (repeat (first | refine AC.seq ?_ | refine AC.block ?_ | refine AC.skip ?_ | refine AC.exit ?_))
    (repeat (first | refine AC.seq ?_ | refine AC.block ?_ | refine AC.skip ?_))
    refine AC.region ?_
    refine AOps.step rfl rfl ?_
    refine AOp.of_run (ARun.mvV (.inl rfl) rfl) ?_
    refine AOps.step rfl rfl ?_
    refine AOp.of_run (ARun.indexAddrL rfl rfl rfl (by omega) (by omega)) ?_
    refine AOps.step rfl rfl (AOp.of_run (ARun.loadNL rfl rfl hrd) ?_)
    refine AOps.step rfl rfl (AOp.alloc rfl (fun b5 hb5 => ?_))
    refine AOps.step rfl rfl ?_
    refine AOp.of_run (ARun.mvV (.inr rfl) rfl) ?_
    refine AOps.step rfl rfl (AOp.store rfl rfl (hset_same _ _ _) rfl ?_)
    refine AOps.nil ?_
    refine AC.le (Le.freezeNew (d := 13) hb5 rfl) ?_
    cases e1 : decide ((i : Int) ∈ order (succL f))
    · (repeat (first | refine AC.seq ?_ | refine AC.block ?_ | refine AC.skip ?_))
      refine AC.drawnH [0, 1, 2, 3, 4, 5, 6, 7, 8, 9, 10, 11, 13, 14, 15, 16, 17, 18, 19, 20, 21, 22, 23, 24] [3, 9, 11, 20] [0, 1, 2, 3, 4, 5, 6, 7, 8, 9, 10, 11, 12, 13, 14, 15, 16, 17, 18, 19, 20, 21, 22, 23, 24] mixed (by kernel_rfl) ?_
      refine RunA.pure rfl rfl rfl rfl rfl (fun _ => ARun.mvL (.inl rfl) rfl) ?_
      refine RunA.pure rfl rfl rfl rfl rfl (fun _ => ARun.mvV (.inl rfl) rfl) ?_
      refine RunA.pure rfl rfl rfl rfl rfl (fun _ => ARun.indexAddrL rfl rfl rfl (by omega) (by omega)) ?_
      refine RunA.calm rfl rfl rfl rfl rfl (HSub.refl _) (fun _ hsub => ARun.loadL rfl rfl (g1 _ e1)) ?_
      refine RunA.pure rfl rfl rfl rfl rfl (fun _ => ARun.not rfl rfl) ?_
      refine RunA.pure rfl rfl rfl rfl rfl (fun _ => ARun.mvV (.inl rfl) rfl) ?_
      refine RunA.passU rfl rfl rfl rfl (by decide) rfl rfl (fun _ _ => (HSub.refl _)) ?_
      refine RunA.passU rfl rfl rfl rfl (by decide) rfl rfl (fun _ _ => (HSub.refl _)) ?_
      refine RunA.passU rfl rfl rfl rfl (by decide) rfl rfl (fun _ _ => (HSub.refl _)) ?_
      refine RunA.passU rfl rfl rfl rfl (by decide) rfl rfl (fun _ _ => (HSub.refl _)) ?_
      refine RunA.passU rfl rfl rfl rfl (by decide) rfl rfl (fun _ _ => (HSub.refl _)) ?_
      refine RunA.passU rfl rfl rfl rfl (by decide) rfl rfl (fun _ _ => (HSub.refl _)) ?_
      refine RunA.passU rfl rfl rfl rfl (by decide) rfl rfl (fun _ _ => (HSub.refl _)) ?_
      refine RunA.passU rfl rfl rfl rfl (by decide) rfl rfl (fun _ _ => (HSub.refl _)) ?_
      refine RunA.pure rfl rfl rfl rfl rfl (fun _ => ARun.pickT rfl rfl) ?_
      refine RunA.pure rfl rfl rfl rfl rfl (fun _ => ARun.mvV (.inl rfl) rfl) ?_
      refine RunA.passU rfl rfl rfl rfl (by decide) rfl rfl (fun _ _ => (HSub.refl _)) ?_
      refine RunA.passU rfl rfl rfl rfl (by decide) rfl rfl (fun _ _ => (HSub.refl _)) ?_
      refine RunA.passU rfl rfl rfl rfl (by decide) rfl rfl (fun _ _ => (HSub.refl _)) ?_
      refine RunA.passU rfl rfl rfl rfl (by decide) rfl rfl (fun _ _ => (HSub.refl _)) ?_
      refine RunA.passU rfl rfl rfl rfl (by decide) rfl rfl (fun _ _ => (HSub.refl _)) ?_
      refine RunA.passU rfl rfl rfl rfl (by decide) rfl rfl (fun _ _ => (HSub.refl _)) ?_
      refine RunA.passU rfl rfl rfl rfl (by decide) rfl rfl (fun _ _ => (HSub.refl _)) ?_
      refine RunA.passU rfl rfl rfl rfl (by decide) rfl rfl (fun _ _ => (HSub.refl _)) ?_
      refine RunA.pure rfl rfl rfl rfl rfl (fun _ => ARun.pickT rfl rfl) ?_
      refine RunA.nil ?_
      (repeat (first | refine AC.seq ?_ | refine AC.block ?_ | refine AC.skip ?_)); refine AC.cond rfl (fun hc => ?_) (fun hc => ?_)
      · (repeat (first | refine AC.seq ?_ | refine AC.block ?_ | refine AC.skip ?_))
        refine AC.region ?_
        refine AOps.step rfl rfl ?_
        refine AOp.of_run (ARun.mvV (.inl rfl) rfl) ?_
        refine AOps.step rfl rfl ?_
        refine AOp.of_run (ARun.build rfl) ?_
        refine AOps.step rfl rfl (AOp.box rfl rfl (fun br hbr => ?_))
        refine AOps.step rfl rfl ?_
        refine AOp.of_run (ARun.mkI rfl (by kernel_rfl) rfl) ?_
        refine AOps.step rfl rfl ?_
        refine AOp.of_run (ARun.mvV (.inr rfl) rfl) ?_
        refine AOps.nil ?_
        refine AC.ret (ARes.one rfl (RV.V rfl) (.inr ⟨hbad fun e => ?_, br, i, rfl, hbr, rfl⟩))
        exact absurd (rw_mem hs0 e.1) (by simpa using e1)
      · cases hc
    have hreach : RW (succL f) (-1) i := mem_rw hs0 (by simpa using e1)
    cases e2 : decide (Q = p.pred)
    · (repeat (first | refine AC.seq ?_ | refine AC.block ?_ | refine AC.skip ?_))
      refine AC.drawnH [0, 1, 2, 3, 4, 5, 6, 7, 8, 9, 10, 11, 13, 14, 15, 16, 17, 18, 19, 20, 21, 22, 23, 24] [3, 9, 11, 20] [0, 1, 2, 3, 4, 5, 6, 7, 8, 9, 10, 11, 12, 13, 14, 15, 16, 17, 18, 19, 20, 21, 22, 23, 24] mixed (by kernel_rfl) ?_
      refine RunA.pure rfl rfl rfl rfl rfl (fun _ => ARun.mvL (.inl rfl) rfl) ?_
      refine RunA.pure rfl rfl rfl rfl rfl (fun _ => ARun.mvV (.inl rfl) rfl) ?_
      refine RunA.pure rfl rfl rfl rfl rfl (fun _ => ARun.indexAddrL rfl rfl rfl (by omega) (by omega)) ?_
      refine RunA.calm rfl rfl rfl rfl rfl (HSub.refl _) (fun _ hsub => ARun.loadL rfl rfl (g1 _ e1)) ?_
      refine RunA.pure rfl rfl rfl rfl rfl (fun _ => ARun.not rfl rfl) ?_
      refine RunA.pure rfl rfl rfl rfl rfl (fun _ => ARun.mvV (.inl rfl) rfl) ?_
      refine RunA.pureG rfl rfl rfl rfl rfl rfl (by decide) rfl (fun _ => ARun.mvL (.inl rfl) rfl) ?_
      refine RunA.pureG rfl rfl rfl rfl rfl rfl (by decide) rfl (fun _ => ARun.mvV (.inl rfl) rfl) ?_
      refine RunA.pureG rfl rfl rfl rfl rfl rfl (by decide) rfl (fun _ => ARun.indexAddrL rfl rfl rfl (by omega) (by omega)) ?_
      refine RunA.calmG rfl rfl rfl rfl rfl rfl (by decide) rfl (HSub.refl _) (fun _ hsub => ARun.loadL rfl rfl g2) ?_
      refine RunA.pureG rfl rfl rfl rfl rfl rfl (by decide) rfl (fun _ => ARun.fieldAddrL rfl rfl) ?_
      refine RunA.calmG rfl rfl rfl rfl rfl rfl (by decide) rfl (HSub.refl _) (fun _ hsub => ARun.loadL rfl rfl rfl) ?_
      refine RunA.opG rfl rfl rfl rfl rfl (by decide) rfl ?_
      refine AOp.call_ rfl rfl ((Equal_spec Q p.pred _ (by omega)).mono ?_)
      rintro _ _ ⟨rfl, rfl⟩; rw [e2]; refine ⟨fun _ q => q, ?_⟩
      refine RunA.pureG rfl rfl rfl rfl rfl rfl (by decide) rfl (fun _ => ARun.not rfl rfl) ?_
      refine RunA.pure rfl rfl rfl rfl rfl (fun _ => ARun.pickF rfl rfl) ?_
      refine RunA.pure rfl rfl rfl rfl rfl (fun _ => ARun.mvV (.inl rfl) rfl) ?_
      refine RunA.passU rfl rfl rfl rfl (by decide) rfl rfl (fun _ _ => (HSub.refl _)) ?_
      refine RunA.passU rfl rfl rfl rfl (by decide) rfl rfl (fun _ _ => (HSub.refl _)) ?_
      refine RunA.passU rfl rfl rfl rfl (by decide) rfl rfl (fun _ _ => (HSub.refl _)) ?_
      refine RunA.passU rfl rfl rfl rfl (by decide) rfl rfl (fun _ _ => (HSub.refl _)) ?_
      refine RunA.passU rfl rfl rfl rfl (by decide) rfl rfl (fun _ _ => (HSub.refl _)) ?_
      refine RunA.passU rfl rfl rfl rfl (by decide) rfl rfl (fun _ _ => (HSub.refl _)) ?_
      refine RunA.passU rfl rfl rfl rfl (by decide) rfl rfl (fun _ _ => (HSub.refl _)) ?_
      refine RunA.passU rfl rfl rfl rfl (by decide) rfl rfl (fun _ _ => (HSub.refl _)) ?_
      refine RunA.pure rfl rfl rfl rfl rfl (fun _ => ARun.pickT rfl rfl) ?_
      refine RunA.nil ?_
      (repeat (first | refine AC.seq ?_ | refine AC.block ?_ | refine AC.skip ?_)); refine AC.cond rfl (fun hc => ?_) (fun hc => ?_)
      · (repeat (first | refine AC.seq ?_ | refine AC.block ?_ | refine AC.skip ?_))
        refine AC.region ?_
        refine AOps.step rfl rfl ?_
        refine AOp.of_run (ARun.mvV (.inl rfl) rfl) ?_
        refine AOps.step rfl rfl ?_
        refine AOp.of_run (ARun.build rfl) ?_
        refine AOps.step rfl rfl (AOp.box rfl rfl (fun br hbr => ?_))
        refine AOps.step rfl rfl ?_
        refine AOp.of_run (ARun.mkI rfl (by kernel_rfl) rfl) ?_
        refine AOps.step rfl rfl ?_
        refine AOp.of_run (ARun.mvV (.inr rfl) rfl) ?_
        refine AOps.nil ?_
        refine AC.ret (ARes.one rfl (RV.V rfl) (.inr ⟨hbad fun e => ?_, br, i, rfl, hbr, rfl⟩))
        exact absurd e.2.1 (by simpa using e2)
      · cases hc
    have hpreds : Q = p.pred := by simpa using e2
    cases e3 : decide ((i : Int) = 0)
    · (repeat (first | refine AC.seq ?_ | refine AC.block ?_ | refine AC.skip ?_))
      refine AC.drawnH [0, 1, 2, 3, 4, 5, 6, 7, 8, 9, 10, 11, 13, 14, 15, 16, 17, 18, 19, 20, 21, 22, 23, 24] [3, 9, 11, 20] [0, 1, 2, 3, 4, 5, 6, 7, 8, 9, 10, 11, 12, 13, 14, 15, 16, 17, 18, 19, 20, 21, 22, 23, 24] mixed (by kernel_rfl) ?_
      refine RunA.pure rfl rfl rfl rfl rfl (fun _ => ARun.mvL (.inl rfl) rfl) ?_
      refine RunA.pure rfl rfl rfl rfl rfl (fun _ => ARun.mvV (.inl rfl) rfl) ?_
      refine RunA.pure rfl rfl rfl rfl rfl (fun _ => ARun.indexAddrL rfl rfl rfl (by omega) (by omega)) ?_
      refine RunA.calm rfl rfl rfl rfl rfl (HSub.refl _) (fun _ hsub => ARun.loadL rfl rfl (g1 _ e1)) ?_
      refine RunA.pure rfl rfl rfl rfl rfl (fun _ => ARun.not rfl rfl) ?_
      refine RunA.pure rfl rfl rfl rfl rfl (fun _ => ARun.mvV (.inl rfl) rfl) ?_
      refine RunA.pureG rfl rfl rfl rfl rfl rfl (by decide) rfl (fun _ => ARun.mvL (.inl rfl) rfl) ?_
      refine RunA.pureG rfl rfl rfl rfl rfl rfl (by decide) rfl (fun _ => ARun.mvV (.inl rfl) rfl) ?_
      refine RunA.pureG rfl rfl rfl rfl rfl rfl (by decide) rfl (fun _ => ARun.indexAddrL rfl rfl rfl (by omega) (by omega)) ?_
      refine RunA.calmG rfl rfl rfl rfl rfl rfl (by decide) rfl (HSub.refl _) (fun _ hsub => ARun.loadL rfl rfl g2) ?_
      refine RunA.pureG rfl rfl rfl rfl rfl rfl (by decide) rfl (fun _ => ARun.fieldAddrL rfl rfl) ?_
      refine RunA.calmG rfl rfl rfl rfl rfl rfl (by decide) rfl (HSub.refl _) (fun _ hsub => ARun.loadL rfl rfl rfl) ?_
      refine RunA.opG rfl rfl rfl rfl rfl (by decide) rfl ?_
      refine AOp.call_ rfl rfl ((Equal_spec Q p.pred _ (by omega)).mono ?_)
      rintro _ _ ⟨rfl, rfl⟩; rw [e2]; refine ⟨fun _ q => q, ?_⟩
      refine RunA.pureG rfl rfl rfl rfl rfl rfl (by decide) rfl (fun _ => ARun.not rfl rfl) ?_
      refine RunA.pure rfl rfl rfl rfl rfl (fun _ => ARun.pickF rfl rfl) ?_
      refine RunA.pure rfl rfl rfl rfl rfl (fun _ => ARun.mvV (.inl rfl) rfl) ?_
      refine RunA.pureG rfl rfl rfl rfl rfl rfl (by decide) rfl (fun _ => ARun.mvV (.inl rfl) rfl) ?_
      refine RunA.pureG rfl rfl rfl rfl rfl rfl (by decide) rfl (fun _ => ARun.eqlV rfl rfl rfl e3) ?_
      refine RunA.pureG rfl rfl rfl rfl rfl rfl (by decide) rfl (fun _ => ARun.mvV (.inl rfl) rfl) ?_
      refine RunA.passU rfl rfl rfl rfl (by decide) rfl rfl (fun _ _ => (HSub.refl _)) ?_
      refine RunA.passU rfl rfl rfl rfl (by decide) rfl rfl (fun _ _ => (HSub.refl _)) ?_
      refine RunA.passU rfl rfl rfl rfl (by decide) rfl rfl (fun _ _ => (HSub.refl _)) ?_
      refine RunA.passU rfl rfl rfl rfl (by decide) rfl rfl (fun _ _ => (HSub.refl _)) ?_
      refine RunA.pureG rfl rfl rfl rfl rfl rfl (by decide) rfl (fun _ => ARun.pickF rfl rfl) ?_
      refine RunA.pure rfl rfl rfl rfl rfl (fun _ => ARun.pickF rfl rfl) ?_
      refine RunA.nil ?_
      (repeat (first | refine AC.seq ?_ | refine AC.block ?_ | refine AC.skip ?_)); refine AC.cond rfl (fun hc => ?_) (fun hc => ?_)
      · cases hc
      (repeat (first | refine AC.seq ?_ | refine AC.block ?_ | refine AC.skip ?_ | refine AC.exit ?_))
      (repeat (first | refine AC.seq ?_ | refine AC.block ?_ | refine AC.skip ?_))
      refine AC.region ?_
      refine AOps.step rfl rfl ?_
      refine AOp.of_run (ARun.add rfl rfl rfl) ?_
      refine AOps.step rfl rfl ?_
      refine AOp.of_run (ARun.mvV (.inl rfl) rfl) ?_
      refine AOps.nil ?_
      exact ⟨_, by omega, i + 1, hlt, rfl, ⟨rfl, rfl, rfl, rfl, rfl, eI_wrap (by omega) (by omega) (by omega), trivial⟩, hgood ⟨hreach, hpreds, fun e => by simp [e] at e3⟩, rfl⟩
    have hi0 : i = 0 := by simpa using e3
    cases e4 : decide ((0 : Int) < p.pred.length)
    · (repeat (first | refine AC.seq ?_ | refine AC.block ?_ | refine AC.skip ?_))
      refine AC.drawnH [0, 1, 2, 3, 4, 5, 6, 7, 8, 9, 10, 11, 13, 14, 15, 16, 17, 18, 19, 20, 21, 22, 23, 24] [3, 9, 11, 20] [0, 1, 2, 3, 4, 5, 6, 7, 8, 9, 10, 11, 12, 13, 14, 15, 16, 17, 18, 19, 20, 21, 22, 23, 24] mixed (by kernel_rfl) ?_
      refine RunA.pure rfl rfl rfl rfl rfl (fun _ => ARun.mvL (.inl rfl) rfl) ?_
      refine RunA.pure rfl rfl rfl rfl rfl (fun _ => ARun.mvV (.inl rfl) rfl) ?_
      refine RunA.pure rfl rfl rfl rfl rfl (fun _ => ARun.indexAddrL rfl rfl rfl (by omega) (by omega)) ?_
      refine RunA.calm rfl rfl rfl rfl rfl (HSub.refl _) (fun _ hsub => ARun.loadL rfl rfl (g1 _ e1)) ?_
      refine RunA.pure rfl rfl rfl rfl rfl (fun _ => ARun.not rfl rfl) ?_
      refine RunA.pure rfl rfl rfl rfl rfl (fun _ => ARun.mvV (.inl rfl) rfl) ?_
      refine RunA.pureG rfl rfl rfl rfl rfl rfl (by decide) rfl (fun _ => ARun.mvL (.inl rfl) rfl) ?_
      refine RunA.pureG rfl rfl rfl rfl rfl rfl (by decide) rfl (fun _ => ARun.mvV (.inl rfl) rfl) ?_
      refine RunA.pureG rfl rfl rfl rfl rfl rfl (by decide) rfl (fun _ => ARun.indexAddrL rfl rfl rfl (by omega) (by omega)) ?_
      refine RunA.calmG rfl rfl rfl rfl rfl rfl (by decide) rfl (HSub.refl _) (fun _ hsub => ARun.loadL rfl rfl g2) ?_
      refine RunA.pureG rfl rfl rfl rfl rfl rfl (by decide) rfl (fun _ => ARun.fieldAddrL rfl rfl) ?_
      refine RunA.calmG rfl rfl rfl rfl rfl rfl (by decide) rfl (HSub.refl _) (fun _ hsub => ARun.loadL rfl rfl rfl) ?_
      refine RunA.opG rfl rfl rfl rfl rfl (by decide) rfl ?_
      refine AOp.call_ rfl rfl ((Equal_spec Q p.pred _ (by omega)).mono ?_)
      rintro _ _ ⟨rfl, rfl⟩; rw [e2]; refine ⟨fun _ q => q, ?_⟩
      refine RunA.pureG rfl rfl rfl rfl rfl rfl (by decide) rfl (fun _ => ARun.not rfl rfl) ?_
      refine RunA.pure rfl rfl rfl rfl rfl (fun _ => ARun.pickF rfl rfl) ?_
      refine RunA.pure rfl rfl rfl rfl rfl (fun _ => ARun.mvV (.inl rfl) rfl) ?_
      refine RunA.pureG rfl rfl rfl rfl rfl rfl (by decide) rfl (fun _ => ARun.mvV (.inl rfl) rfl) ?_
      refine RunA.pureG rfl rfl rfl rfl rfl rfl (by decide) rfl (fun _ => ARun.eqlV rfl rfl rfl e3) ?_
      refine RunA.pureG rfl rfl rfl rfl rfl rfl (by decide) rfl (fun _ => ARun.mvV (.inl rfl) rfl) ?_
      refine RunA.pureG rfl rfl rfl rfl rfl rfl (by decide) rfl (fun _ => ARun.fieldAddrL rfl rfl) ?_
      refine RunA.calmG rfl rfl rfl rfl rfl rfl (by decide) rfl (HSub.refl _) (fun _ hsub => ARun.loadL rfl rfl rfl) ?_
      refine RunA.pureG rfl rfl rfl rfl rfl rfl (by decide) rfl (fun _ => ARun.lenL rfl rfl) ?_
      refine RunA.pureG rfl rfl rfl rfl rfl rfl (by decide) rfl (fun _ => ARun.gtrV rfl rfl rfl e4) ?_
      refine RunA.pureG rfl rfl rfl rfl rfl rfl (by decide) rfl (fun _ => ARun.pickT rfl rfl) ?_
      refine RunA.pure rfl rfl rfl rfl rfl (fun _ => ARun.pickF rfl rfl) ?_
      refine RunA.nil ?_
      (repeat (first | refine AC.seq ?_ | refine AC.block ?_ | refine AC.skip ?_)); refine AC.cond rfl (fun hc => ?_) (fun hc => ?_)
      · cases hc
      (repeat (first | refine AC.seq ?_ | refine AC.block ?_ | refine AC.skip ?_ | refine AC.exit ?_))
      (repeat (first | refine AC.seq ?_ | refine AC.block ?_ | refine AC.skip ?_))
      refine AC.region ?_
      refine AOps.step rfl rfl ?_
      refine AOp.of_run (ARun.add rfl rfl rfl) ?_
      refine AOps.step rfl rfl ?_
      refine AOp.of_run (ARun.mvV (.inl rfl) rfl) ?_
      refine AOps.nil ?_
      exact ⟨_, by omega, i + 1, hlt, rfl, ⟨rfl, rfl, rfl, rfl, rfl, eI_wrap (by omega) (by omega) (by omega), trivial⟩, hgood ⟨hreach, hpreds, fun _ => List.eq_nil_of_length_eq_zero (by have := of_decide_eq_false e4; omega)⟩, rfl⟩
    · (repeat (first | refine AC.seq ?_ | refine AC.block ?_ | refine AC.skip ?_))
      refine AC.drawnH [0, 1, 2, 3, 4, 5, 6, 7, 8, 9, 10, 11, 13, 14, 15, 16, 17, 18, 19, 20, 21, 22, 23, 24] [3, 9, 11, 20] [0, 1, 2, 3, 4, 5, 6, 7, 8, 9, 10, 11, 12, 13, 14, 15, 16, 17, 18, 19, 20, 21, 22, 23, 24] mixed (by kernel_rfl) ?_
      refine RunA.pure rfl rfl rfl rfl rfl (fun _ => ARun.mvL (.inl rfl) rfl) ?_
      refine RunA.pure rfl rfl rfl rfl rfl (fun _ => ARun.mvV (.inl rfl) rfl) ?_
      refine RunA.pure rfl rfl rfl rfl rfl (fun _ => ARun.indexAddrL rfl rfl rfl (by omega) (by omega)) ?_
      refine RunA.calm rfl rfl rfl rfl rfl (HSub.refl _) (fun _ hsub => ARun.loadL rfl rfl (g1 _ e1)) ?_
      refine RunA.pure rfl rfl rfl rfl rfl (fun _ => ARun.not rfl rfl) ?_
      refine RunA.pure rfl rfl rfl rfl rfl (fun _ => ARun.mvV (.inl rfl) rfl) ?_
      refine RunA.pureG rfl rfl rfl rfl rfl rfl (by decide) rfl (fun _ => ARun.mvL (.inl rfl) rfl) ?_
      refine RunA.pureG rfl rfl rfl rfl rfl rfl (by decide) rfl (fun _ => ARun.mvV (.inl rfl) rfl) ?_
      refine RunA.pureG rfl rfl rfl rfl rfl rfl (by decide) rfl (fun _ => ARun.indexAddrL rfl rfl rfl (by omega) (by omega)) ?_
      refine RunA.calmG rfl rfl rfl rfl rfl rfl (by decide) rfl (HSub.refl _) (fun _ hsub => ARun.loadL rfl rfl g2) ?_
      refine RunA.pureG rfl rfl rfl rfl rfl rfl (by decide) rfl (fun _ => ARun.fieldAddrL rfl rfl) ?_
      refine RunA.calmG rfl rfl rfl rfl rfl rfl (by decide) rfl (HSub.refl _) (fun _ hsub => ARun.loadL rfl rfl rfl) ?_
      refine RunA.opG rfl rfl rfl rfl rfl (by decide) rfl ?_
      refine AOp.call_ rfl rfl ((Equal_spec Q p.pred _ (by omega)).mono ?_)
      rintro _ _ ⟨rfl, rfl⟩; rw [e2]; refine ⟨fun _ q => q, ?_⟩
      refine RunA.pureG rfl rfl rfl rfl rfl rfl (by decide) rfl (fun _ => ARun.not rfl rfl) ?_
      refine RunA.pure rfl rfl rfl rfl rfl (fun _ => ARun.pickF rfl rfl) ?_
      refine RunA.pure rfl rfl rfl rfl rfl (fun _ => ARun.mvV (.inl rfl) rfl) ?_
      refine RunA.pureG rfl rfl rfl rfl rfl rfl (by decide) rfl (fun _ => ARun.mvV (.inl rfl) rfl) ?_
      refine RunA.pureG rfl rfl rfl rfl rfl rfl (by decide) rfl (fun _ => ARun.eqlV rfl rfl rfl e3) ?_
      refine RunA.pureG rfl rfl rfl rfl rfl rfl (by decide) rfl (fun _ => ARun.mvV (.inl rfl) rfl) ?_
      refine RunA.pureG rfl rfl rfl rfl rfl rfl (by decide) rfl (fun _ => ARun.fieldAddrL rfl rfl) ?_
      refine RunA.calmG rfl rfl rfl rfl rfl rfl (by decide) rfl (HSub.refl _) (fun _ hsub => ARun.loadL rfl rfl rfl) ?_
      refine RunA.pureG rfl rfl rfl rfl rfl rfl (by decide) rfl (fun _ => ARun.lenL rfl rfl) ?_
      refine RunA.pureG rfl rfl rfl rfl rfl rfl (by decide) rfl (fun _ => ARun.gtrV rfl rfl rfl e4) ?_
      refine RunA.pureG rfl rfl rfl rfl rfl rfl (by decide) rfl (fun _ => ARun.pickT rfl rfl) ?_
      refine RunA.pure rfl rfl rfl rfl rfl (fun _ => ARun.pickF rfl rfl) ?_
      refine RunA.nil ?_
      (repeat (first | refine AC.seq ?_ | refine AC.block ?_ | refine AC.skip ?_)); refine AC.cond rfl (fun hc => ?_) (fun hc => ?_)
      · (repeat (first | refine AC.seq ?_ | refine AC.block ?_ | refine AC.skip ?_))
        refine AC.region ?_
        refine AOps.step rfl rfl ?_
        refine AOp.of_run (ARun.mvV (.inl rfl) rfl) ?_
        refine AOps.step rfl rfl ?_
        refine AOp.of_run (ARun.build rfl) ?_
        refine AOps.step rfl rfl (AOp.box rfl rfl (fun br hbr => ?_))
        refine AOps.step rfl rfl ?_
        refine AOp.of_run (ARun.mkI rfl (by kernel_rfl) rfl) ?_
        refine AOps.step rfl rfl ?_
        refine AOp.of_run (ARun.mvV (.inr rfl) rfl) ?_
        refine AOps.nil ?_
        refine AC.ret (ARes.one rfl (RV.V rfl) (.inr ⟨hbad fun e => ?_, br, i, rfl, hbr, rfl⟩))
        rw [e.2.2 hi0] at e4; simp at e4
      · cases hc
  have hge : i = f.parts.length := by simp at hc; omega
  subst hge
  (repeat (first | refine AC.seq ?_ | refine AC.block ?_ | refine AC.skip ?_ | refine AC.exit ?_))
  (repeat (first | refine AC.seq ?_ | refine AC.block ?_ | refine AC.skip ?_))
  refine AC.region ?_
  refine AOps.step rfl rfl ?_
  refine AOp.of_run (ARun.mvV (.inr rfl) rfl) ?_
  refine AOps.nil ?_
  refine AC.ret (ARes.one rfl (RV.V rfl) (.inl ⟨⟨hhall, fun j hj => hall2 j hj hj⟩, rfl, rfl⟩))
end Go.Proofs.Ytilanageangegaa

/- Walk of ir.Check. -/
set_option linter.unusedVariables false
set_option linter.unusedSimpArgs false
namespace Go.Proofs.Ytilanageangegaa
open Go.Ab

def chkF (bc j : Nat) : AVal := .v (.func (.func j) #[ptr bc] #[])
def nilS : AVal := .v (.slice none 0 0)

set_option maxRecDepth 10000 in
theorem Check_spec (f : DIr) (h : AHeap) (z : Sz f) : Sp Try.prog 35 [.agg (eIr f)] h (fun r h' => r = eI (chkE f) ∧ h' = h) := by
  have hz := z.parts
  refine Sp.of Try.func35 rfl rfl (by show 1 ≤ 58; decide) ?_
  (repeat (first | refine AC.seq ?_ | refine AC.block ?_ | refine AC.skip ?_))
  refine AC.region ?_
  refine AOps.step rfl rfl ?_
  refine AOp.boxL rfl rfl ?_
  refine AOps.step rfl rfl ?_
  refine AOp.of_run (ARun.mvV (.inr rfl) rfl) ?_
  refine AOps.nil ?_
  (repeat (first | refine AC.seq ?_ | refine AC.block ?_ | refine AC.skip ?_ | refine AC.exit ?_))
  refine AC.mono (Q := fun ex τ h2 => ex = .normal ∧ h2 = h ∧ ∃ q : Bool, (q = true ↔ ((1 ≤ f.parts.length ∧ f.parts.length ≤ 8192) ∧ 0 ≤ f.values ∧ f.values ≤ 65536)) ∧ Slots τ [(1, .lp (eIr f) 0), (26, eB (!q))]) ?_ ?_
  · (repeat (first | refine AC.seq ?_ | refine AC.block ?_ | refine AC.skip ?_))
    refine AC.region ?_
    refine AOps.step rfl rfl ?_
    refine AOp.of_run (ARun.fieldAddrL rfl rfl) ?_
    refine AOps.step rfl rfl ?_
    refine AOp.of_run (ARun.loadL rfl rfl rfl) ?_
    refine AOps.step rfl rfl ?_
    refine AOp.of_run (ARun.lenL rfl rfl) ?_
    refine AOps.step rfl rfl ?_
    refine AOp.of_run (ARun.lss rfl rfl rfl) ?_
    refine AOps.step rfl rfl ?_
    refine AOp.of_run (ARun.mvV (.inl rfl) rfl) ?_
    rw [dec_lt f.parts.length 1]
    cases g1 : decide ((1 : Int) ≤ f.parts.length)
    · refine AOps.passU rfl rfl (by decide) rfl rfl rfl ?_
      refine AOps.passU rfl rfl (by decide) rfl rfl rfl ?_
      refine AOps.passU rfl rfl (by decide) rfl rfl rfl ?_
      refine AOps.passU rfl rfl (by decide) rfl rfl rfl ?_
      refine AOps.step rfl rfl (AOp.of_run (ARun.pickT rfl rfl) ?_)
      refine AOps.step rfl rfl ?_
      refine AOp.of_run (ARun.mvV (.inl rfl) rfl) ?_
      refine AOps.passU rfl rfl (by decide) rfl rfl rfl ?_
      refine AOps.passU rfl rfl (by decide) rfl rfl rfl ?_
      refine AOps.passU rfl rfl (by decide) rfl rfl rfl ?_
      refine AOps.step rfl rfl (AOp.of_run (ARun.pickT rfl rfl) ?_)
      refine AOps.step rfl rfl ?_
      refine AOp.of_run (ARun.mvV (.inl rfl) rfl) ?_
      refine AOps.passU rfl rfl (by decide) rfl rfl rfl ?_
      refine AOps.passU rfl rfl (by decide) rfl rfl rfl ?_
      refine AOps.passU rfl rfl (by decide) rfl rfl rfl ?_
      refine AOps.step rfl rfl (AOp.of_run (ARun.pickT rfl rfl) ?_)
      refine AOps.nil ?_
      exact ⟨rfl, rfl, false, by have := of_decide_eq_false g1; simp; omega, rfl, rfl, trivial⟩
    have k1 : (1 : Int) ≤ f.parts.length := by simpa using g1
    have g2 : decide ((8192 : Int) < f.parts.length) = false := decide_eq_false (by omega)
    refine AOps.want rfl rfl (by decide) rfl ?_
    refine AOps.step rfl rfl ?_
    refine AOp.of_run (ARun.fieldAddrL rfl rfl) ?_
    refine AOps.want rfl rfl (by decide) rfl ?_
    refine AOps.step rfl rfl ?_
    refine AOp.of_run (ARun.loadL rfl rfl rfl) ?_
    refine AOps.want rfl rfl (by decide) rfl ?_
    refine AOps.step rfl rfl ?_
    refine AOp.of_run (ARun.lenL rfl rfl) ?_
    refine AOps.want rfl rfl (by decide) rfl ?_
    refine AOps.step rfl rfl (AOp.of_run (ARun.gtrV rfl rfl rfl g2) ?_)
    refine AOps.step rfl rfl (AOp.of_run (ARun.pickF rfl rfl) ?_)
    refine AOps.step rfl rfl ?_
    refine AOp.of_run (ARun.mvV (.inl rfl) rfl) ?_
    refine AOps.want rfl rfl (by decide) rfl ?_
    refine AOps.step rfl rfl ?_
    refine AOp.of_run (ARun.fieldAddrL rfl rfl) ?_
    refine AOps.want rfl rfl (by decide) rfl ?_
    refine AOps.step rfl rfl ?_
    refine AOp.of_run (ARun.loadL rfl rfl rfl) ?_
    refine AOps.want rfl rfl (by decide) rfl ?_
    refine AOps.step rfl rfl ?_
    refine AOp.of_run (ARun.lss rfl rfl rfl) ?_
    rw [dec_lt f.values 0]
    cases g3 : decide (0 ≤ f.values)
    · refine AOps.step rfl rfl (AOp.of_run (ARun.pickF rfl rfl) ?_)
      refine AOps.step rfl rfl ?_
      refine AOp.of_run (ARun.mvV (.inl rfl) rfl) ?_
      refine AOps.passU rfl rfl (by decide) rfl rfl rfl ?_
      refine AOps.passU rfl rfl (by decide) rfl rfl rfl ?_
      refine AOps.passU rfl rfl (by decide) rfl rfl rfl ?_
      refine AOps.step rfl rfl (AOp.of_run (ARun.pickT rfl rfl) ?_)
      refine AOps.nil ?_
      exact ⟨rfl, rfl, false, by have := of_decide_eq_false g3; simp; omega, rfl, rfl, trivial⟩
    have k3 : 0 ≤ f.values := by simpa using g3
    refine AOps.step rfl rfl (AOp.of_run (ARun.pickF rfl rfl) ?_)
    refine AOps.step rfl rfl ?_
    refine AOp.of_run (ARun.mvV (.inl rfl) rfl) ?_
    refine AOps.want rfl rfl (by decide) rfl ?_
    refine AOps.step rfl rfl ?_
    refine AOp.of_run (ARun.fieldAddrL rfl rfl) ?_
    refine AOps.want rfl rfl (by decide) rfl ?_
    refine AOps.step rfl rfl ?_
    refine AOp.of_run (ARun.loadL rfl rfl rfl) ?_
    refine AOps.want rfl rfl (by decide) rfl ?_
    refine AOps.step rfl rfl ?_
    refine AOp.of_run (ARun.gtr rfl rfl rfl) ?_
    rw [dec_lt 65536 f.values]
    refine AOps.step rfl rfl (AOp.of_run (ARun.pickF rfl rfl) ?_)
    refine AOps.nil ?_
    exact ⟨rfl, rfl, decide (f.values ≤ 65536), by simp; omega, rfl, rfl, trivial⟩
  rintro _ τ _ ⟨rfl, rfl, q, hq, hs⟩
  obtain ⟨t0, rfl⟩ := hs.open_
  (repeat (first | refine AC.seq ?_ | refine AC.block ?_ | refine AC.skip ?_)); refine AC.cond rfl (fun hc => ?_) (fun hc => ?_)
  · have hqf : q = false := by simpa using hc
    (repeat (first | refine AC.seq ?_ | refine AC.block ?_ | refine AC.skip ?_))
    refine AC.region ?_
    refine AOps.step rfl rfl ?_
    refine AOp.of_run (ARun.mvV (.inr rfl) rfl) ?_
    refine AOps.nil ?_
    refine AC.ret (ARes.one rfl (RV.V rfl) ⟨?_, rfl⟩)
    rw [chkE_no fun e => by have := hq.2 e.1; rw [hqf] at this; cases this]; rfl
  have hqt : q = true := by simpa using hc
  have hsz := hq.1 hqt
  have hne : f.parts ≠ [] := fun e => by have := hsz.1.1; rw [e] at this; simp at this
  rename_i h
  (repeat (first | refine AC.seq ?_ | refine AC.block ?_ | refine AC.skip ?_ | refine AC.exit ?_))
  (repeat (first | refine AC.seq ?_ | refine AC.block ?_ | refine AC.skip ?_))
  refine AC.region ?_
  refine AOps.step rfl rfl ?_
  refine AOp.of_run (ARun.loadNL rfl rfl rfl) ?_
  refine AOps.step rfl rfl ?_
  refine AOp.of_run (ARun.build rfl) ?_
  refine AOps.step rfl rfl (AOp.box rfl rfl (fun bc hbc => ?_))
  refine AOps.step rfl rfl ?_
  refine AOp.of_run (ARun.mvV (.inr rfl) rfl) ?_
  refine AOps.nil ?_
  have hb0 : hset h bc (some (.cells (eChk f nilS nilS) 132 4)) bc = some (.cells (eChk f nilS nilS) 132 4) := hset_same _ _ _
  have hs0 : HSub h (hset h bc (some (.cells (eChk f nilS nilS) 132 4))) := HSub.add _ hbc
  have hdrop : hset (hset h bc (some (.cells (eChk f nilS nilS) 132 4))) bc none = h := by rw [hset_hset, hset_id hbc]
  change thenA _ _ Exit.normal _ (hset h bc (some (.cells (eChk f nilS nilS) 132 4)))
  generalize hset h bc (some (.cells (eChk f nilS nilS) 132 4)) = H0 at *
  (repeat (first | refine AC.seq ?_ | refine AC.block ?_ | refine AC.skip ?_))
  refine AC.region ?_
  refine AOps.step rfl rfl ?_
  refine AOp.of_run (ARun.mvV (.inl rfl) rfl) ?_
  refine AOps.step rfl rfl (AOp.of_run (ARun.makeFunc (f' := #[ptr bc]) (c' := #[]) rfl (by rfl) (by rfl)) ?_)
  refine AOps.step rfl rfl ?_
  refine AOp.of_run (ARun.mvV (.inl rfl) rfl) ?_
  refine AOps.step rfl rfl (AOp.of_run (ARun.makeFunc (f' := #[ptr bc]) (c' := #[]) rfl (by rfl) (by rfl)) ?_)
  refine AOps.step rfl rfl ?_
  refine AOp.of_run (ARun.mvV (.inl rfl) rfl) ?_
  refine AOps.step rfl rfl (AOp.of_run (ARun.makeFunc (f' := #[ptr bc]) (c' := #[]) rfl (by rfl) (by rfl)) ?_)
  refine AOps.step rfl rfl ?_
  refine AOp.buildSlice rfl ?_
  refine AOps.step rfl rfl ?_
  refine AOp.of_run (ARun.lenL rfl rfl) ?_
  refine AOps.step rfl rfl ?_
  refine AOp.of_run (ARun.mvV (.inl rfl) rfl) ?_
  refine AOps.nil ?_
  (repeat (first | refine AC.seq ?_ | refine AC.block ?_ | refine AC.skip ?_ | refine AC.exit ?_))
  refine AC.loop (fun m τ h' => (m = 3 ∧ Slots τ [(36, .ls 3 [chkF bc 64, chkF bc 65, chkF bc 66]), (37, eI 3), (38, eI 0)] ∧ h' = H0) ∨
    (m = 2 ∧ Slots τ [(36, .ls 3 [chkF bc 64, chkF bc 65, chkF bc 66]), (37, eI 3), (38, eI 1)] ∧ waysP f ∧ h' = H0) ∨
    (m = 1 ∧ Slots τ [(36, .ls 3 [chkF bc 64, chkF bc 65, chkF bc 66]), (37, eI 3), (38, eI 2)] ∧ waysP f ∧ ∃ L b, allMk mkP (List.replicate f.values.toNat zPk) f = some L ∧ L.length = f.values.toNat ∧ H0 b = none ∧
      h' = hset (hset H0 b (some (.cells (L.flatMap ePk) 157 (f.values.toNat * 2)))) bc (some (.cells (eChk f (.v (.slice (some ⟨b, 0, none⟩) f.values.toNat f.values.toNat)) nilS) 132 4))) ∨
    (m = 0 ∧ Slots τ [(36, .ls 3 [chkF bc 64, chkF bc 65, chkF bc 66]), (37, eI 3), (38, eI 3)] ∧ chkP f ∧ HSub h h')) 3 ?_ ?_
  · exact .inl ⟨rfl, ⟨rfl, rfl, rfl, trivial⟩, rfl⟩
  rintro m τ h1 (⟨rfl, hs, rfl⟩ | ⟨rfl, hs, hw, rfl⟩ | ⟨rfl, hs, hw, L, b, hall, hLl, hb, rfl⟩ | ⟨rfl, hs, hok, hsub⟩)
  · obtain ⟨t1, rfl⟩ := hs.open_
    (repeat (first | refine AC.seq ?_ | refine AC.block ?_ | refine AC.skip ?_))
    refine AC.region ?_
    refine AOps.step rfl rfl ?_
    refine AOp.of_run (ARun.lss rfl rfl rfl) ?_
    refine AOps.nil ?_
    (repeat (first | refine AC.seq ?_ | refine AC.block ?_ | refine AC.skip ?_)); refine AC.cond rfl (fun hc => ?_) (fun hc => ?_)
    case refine_2 => cases hc
    (repeat (first | refine AC.seq ?_ | refine AC.block ?_ | refine AC.skip ?_ | refine AC.exit ?_))
    (repeat (first | refine AC.seq ?_ | refine AC.block ?_ | refine AC.skip ?_))
    refine AC.region ?_
    refine AOps.step rfl rfl ?_
    refine AOp.of_run (ARun.indexAddrL rfl rfl rfl (by omega) (by omega)) ?_
    refine AOps.step rfl rfl (AOp.of_run (ARun.loadL rfl rfl rfl) ?_)
    refine AOps.step rfl rfl ?_
    refine AOp.of_run (ARun.mvV (.inr rfl) rfl) ?_
    refine AOps.nil ?_
    (repeat (first | refine AC.seq ?_ | refine AC.block ?_ | refine AC.skip ?_))
    refine AC.region ?_
    refine AOps.step rfl rfl ?_
    refine AOp.of_run (ARun.mvV (.inl rfl) rfl) ?_
    refine AOps.step rfl rfl (AOp.call_ rfl rfl ((ways_spec f nilS nilS bc _ z hne hb0).mono ?_))
    rintro _ _ (⟨hw, rfl, rfl⟩ | ⟨hno, br, i, rfl, hbr, rfl⟩)
    · refine AOps.step rfl rfl ?_
      refine AOp.of_run (ARun.mvV (.inr rfl) rfl) ?_
      refine AOps.nil ?_
      (repeat (first | refine AC.seq ?_ | refine AC.block ?_ | refine AC.skip ?_))
      refine AC.region ?_
      refine AOps.step rfl rfl ?_
      refine AOp.of_run (ARun.mvV (.inl rfl) rfl) ?_
      refine AOps.step rfl rfl ?_
      refine AOp.of_run (ARun.mkI rfl (by kernel_rfl) rfl) ?_
      refine AOps.step rfl rfl (AOp.call_ rfl rfl ((Is_nil 1 _).mono ?_))
      rintro _ _ ⟨rfl, rfl⟩
      refine AOps.step rfl rfl ?_
      refine AOp.of_run (ARun.mvV (.inl rfl) rfl) ?_
      refine AOps.want rfl rfl (by decide) rfl ?_
      refine AOps.step rfl rfl ?_
      refine AOp.of_run (ARun.mvV (.inl rfl) rfl) ?_
      refine AOps.want rfl rfl (by decide) rfl ?_
      refine AOps.step rfl rfl ?_
      refine AOp.of_run (ARun.mkI rfl (by kernel_rfl) rfl) ?_
      refine AOps.want rfl rfl (by decide) rfl ?_
      refine AOps.step rfl rfl (AOp.call_ rfl rfl ((Is_nil 2 _).mono ?_))
      rintro _ _ ⟨rfl, rfl⟩
      refine AOps.step rfl rfl (AOp.of_run (ARun.pickF rfl rfl) ?_)
      refine AOps.step rfl rfl ?_
      refine AOp.of_run (ARun.mvV (.inl rfl) rfl) ?_
      refine AOps.want rfl rfl (by decide) rfl ?_
      refine AOps.step rfl rfl ?_
      refine AOp.of_run (ARun.mvV (.inl rfl) rfl) ?_
      refine AOps.want rfl rfl (by decide) rfl ?_
      refine AOps.step rfl rfl ?_
      refine AOp.of_run (ARun.mkI rfl (by kernel_rfl) rfl) ?_
      refine AOps.want rfl rfl (by decide) rfl ?_
      refine AOps.step rfl rfl (AOp.call_ rfl rfl ((Is_nil 3 _).mono ?_))
      rintro _ _ ⟨rfl, rfl⟩
      refine AOps.step rfl rfl (AOp.of_run (ARun.pickF rfl rfl) ?_)
      refine AOps.nil ?_
      (repeat (first | refine AC.seq ?_ | refine AC.block ?_ | refine AC.skip ?_)); refine AC.cond rfl (fun hc => ?_) (fun hc => ?_)
      · cases hc
      (repeat (first | refine AC.seq ?_ | refine AC.block ?_ | refine AC.skip ?_ | refine AC.exit ?_))
      (repeat (first | refine AC.seq ?_ | refine AC.block ?_ | refine AC.skip ?_))
      refine AC.region ?_
      refine AOps.step rfl rfl ?_
      refine AOp.of_run (ARun.add rfl rfl rfl) ?_
      refine AOps.step rfl rfl ?_
      refine AOp.of_run (ARun.mvV (.inl rfl) rfl) ?_
      refine AOps.nil ?_
      exact ⟨2, by decide, .inr (.inl ⟨rfl, ⟨rfl, rfl, rfl, trivial⟩, hw, rfl⟩)⟩
    · have hg : hset h1 br (some (.cells [eI i, eI 1] 155 2)) br = some (.cells [eI i, eI 1] 155 2) := hset_same _ _ _
      have hsub : HSub h (hset h1 br (some (.cells [eI i, eI 1] 155 2))) := hs0.trans (HSub.add _ hbr)
      generalize hset h1 br (some (.cells [eI i, eI 1] 155 2)) = G at *
      refine AOps.step rfl rfl ?_
      refine AOp.of_run (ARun.mvV (.inr rfl) rfl) ?_
      refine AOps.nil ?_
      (repeat (first | refine AC.seq ?_ | refine AC.block ?_ | refine AC.skip ?_))
      refine AC.region ?_
      refine AOps.step rfl rfl ?_
      refine AOp.of_run (ARun.mvV (.inl rfl) rfl) ?_
      refine AOps.step rfl rfl ?_
      refine AOp.of_run (ARun.mkI rfl (by kernel_rfl) rfl) ?_
      refine AOps.step rfl rfl (AOp.call_ rfl rfl ((Is_spec br i 1 1 _ hg).mono ?_))
      rintro _ _ ⟨rfl, rfl⟩
      refine AOps.step rfl rfl ?_
      refine AOp.of_run (ARun.mvV (.inl rfl) rfl) ?_
      refine AOps.passU rfl rfl (by decide) rfl rfl rfl ?_
      refine AOps.passU rfl rfl (by decide) rfl rfl rfl ?_
      refine AOps.passU rfl rfl (by decide) rfl rfl rfl ?_
      refine AOps.step rfl rfl (AOp.of_run (ARun.pickT rfl rfl) ?_)
      refine AOps.step rfl rfl ?_
      refine AOp.of_run (ARun.mvV (.inl rfl) rfl) ?_
      refine AOps.passU rfl rfl (by decide) rfl rfl rfl ?_
      refine AOps.passU rfl rfl (by decide) rfl rfl rfl ?_
      refine AOps.passU rfl rfl (by decide) rfl rfl rfl ?_
      refine AOps.step rfl rfl (AOp.of_run (ARun.pickT rfl rfl) ?_)
      refine AOps.nil ?_
      (repeat (first | refine AC.seq ?_ | refine AC.block ?_ | refine AC.skip ?_)); refine AC.cond rfl (fun hc => ?_) (fun hc => ?_)
      case refine_2 => cases hc
      (repeat (first | refine AC.seq ?_ | refine AC.block ?_ | refine AC.skip ?_))
      refine AC.region ?_
      refine AOps.step rfl rfl ?_
      refine AOp.of_run (ARun.mvV (.inr rfl) rfl) ?_
      refine AOps.nil ?_
      refine AC.ret (ARes.le (Le.sub hsub) (ARes.one rfl (RV.V rfl) ⟨?_, rfl⟩))
      rw [chkE_no fun e => hno e.2.1]; rfl
  · obtain ⟨t1, rfl⟩ := hs.open_
    (repeat (first | refine AC.seq ?_ | refine AC.block ?_ | refine AC.skip ?_))
    refine AC.region ?_
    refine AOps.step rfl rfl ?_
    refine AOp.of_run (ARun.lss rfl rfl rfl) ?_
    refine AOps.nil ?_
    (repeat (first | refine AC.seq ?_ | refine AC.block ?_ | refine AC.skip ?_)); refine AC.cond rfl (fun hc => ?_) (fun hc => ?_)
    case refine_2 => cases hc
    (repeat (first | refine AC.seq ?_ | refine AC.block ?_ | refine AC.skip ?_ | refine AC.exit ?_))
    (repeat (first | refine AC.seq ?_ | refine AC.block ?_ | refine AC.skip ?_))
    refine AC.region ?_
    refine AOps.step rfl rfl ?_
    refine AOp.of_run (ARun.indexAddrL rfl rfl rfl (by omega) (by omega)) ?_
    refine AOps.step rfl rfl (AOp.of_run (ARun.loadL rfl rfl rfl) ?_)
    refine AOps.step rfl rfl ?_
    refine AOp.of_run (ARun.mvV (.inr rfl) rfl) ?_
    refine AOps.nil ?_
    (repeat (first | refine AC.seq ?_ | refine AC.block ?_ | refine AC.skip ?_))
    refine AC.region ?_
    refine AOps.step rfl rfl ?_
    refine AOp.of_run (ARun.mvV (.inl rfl) rfl) ?_
    refine AOps.step rfl rfl (AOp.call_ rfl rfl ((made_spec f nilS nilS bc _ z hsz.2.1 hsz.2.2 hb0).mono ?_))
    rintro _ _ (⟨L, b, hall, hLl, rfl, hb, rfl⟩ | ⟨hno, br, i, rfl, hg, hsub⟩)
    · refine AOps.step rfl rfl ?_
      refine AOp.of_run (ARun.mvV (.inr rfl) rfl) ?_
      refine AOps.nil ?_
      (repeat (first | refine AC.seq ?_ | refine AC.block ?_ | refine AC.skip ?_))
      refine AC.region ?_
      refine AOps.step rfl rfl ?_
      refine AOp.of_run (ARun.mvV (.inl rfl) rfl) ?_
      refine AOps.step rfl rfl ?_
      refine AOp.of_run (ARun.mkI rfl (by kernel_rfl) rfl) ?_
      refine AOps.step rfl rfl (AOp.call_ rfl rfl ((Is_nil 1 _).mono ?_))
      rintro _ _ ⟨rfl, rfl⟩
      refine AOps.step rfl rfl ?_
      refine AOp.of_run (ARun.mvV (.inl rfl) rfl) ?_
      refine AOps.want rfl rfl (by decide) rfl ?_
      refine AOps.step rfl rfl ?_
      refine AOp.of_run (ARun.mvV (.inl rfl) rfl) ?_
      refine AOps.want rfl rfl (by decide) rfl ?_
      refine AOps.step rfl rfl ?_
      refine AOp.of_run (ARun.mkI rfl (by kernel_rfl) rfl) ?_
      refine AOps.want rfl rfl (by decide) rfl ?_
      refine AOps.step rfl rfl (AOp.call_ rfl rfl ((Is_nil 2 _).mono ?_))
      rintro _ _ ⟨rfl, rfl⟩
      refine AOps.step rfl rfl (AOp.of_run (ARun.pickF rfl rfl) ?_)
      refine AOps.step rfl rfl ?_
      refine AOp.of_run (ARun.mvV (.inl rfl) rfl) ?_
      refine AOps.want rfl rfl (by decide) rfl ?_
      refine AOps.step rfl rfl ?_
      refine AOp.of_run (ARun.mvV (.inl rfl) rfl) ?_
      refine AOps.want rfl rfl (by decide) rfl ?_
      refine AOps.step rfl rfl ?_
      refine AOp.of_run (ARun.mkI rfl (by kernel_rfl) rfl) ?_
      refine AOps.want rfl rfl (by decide) rfl ?_
      refine AOps.step rfl rfl (AOp.call_ rfl rfl ((Is_nil 3 _).mono ?_))
      rintro _ _ ⟨rfl, rfl⟩
      refine AOps.step rfl rfl (AOp.of_run (ARun.pickF rfl rfl) ?_)
      refine AOps.nil ?_
      (repeat (first | refine AC.seq ?_ | refine AC.block ?_ | refine AC.skip ?_)); refine AC.cond rfl (fun hc => ?_) (fun hc => ?_)
      · cases hc
      (repeat (first | refine AC.seq ?_ | refine AC.block ?_ | refine AC.skip ?_ | refine AC.exit ?_))
      (repeat (first | refine AC.seq ?_ | refine AC.block ?_ | refine AC.skip ?_))
      refine AC.region ?_
      refine AOps.step rfl rfl ?_
      refine AOp.of_run (ARun.add rfl rfl rfl) ?_
      refine AOps.step rfl rfl ?_
      refine AOp.of_run (ARun.mvV (.inl rfl) rfl) ?_
      refine AOps.nil ?_
      exact ⟨1, by decide, .inr (.inr (.inl ⟨rfl, ⟨rfl, rfl, rfl, trivial⟩, hw, L, b, hall, hLl, hb, rfl⟩))⟩
    · rename_i G
      rw [hdrop] at hsub
      refine AOps.step rfl rfl ?_
      refine AOp.of_run (ARun.mvV (.inr rfl) rfl) ?_
      refine AOps.nil ?_
      (repeat (first | refine AC.seq ?_ | refine AC.block ?_ | refine AC.skip ?_))
      refine AC.region ?_
      refine AOps.step rfl rfl ?_
      refine AOp.of_run (ARun.mvV (.inl rfl) rfl) ?_
      refine AOps.step rfl rfl ?_
      refine AOp.of_run (ARun.mkI rfl (by kernel_rfl) rfl) ?_
      refine AOps.step rfl rfl (AOp.call_ rfl rfl ((Is_spec br i 2 1 _ hg).mono ?_))
      rintro _ _ ⟨rfl, rfl⟩
      refine AOps.step rfl rfl ?_
      refine AOp.of_run (ARun.mvV (.inl rfl) rfl) ?_
      refine AOps.want rfl rfl (by decide) rfl ?_
      refine AOps.step rfl rfl ?_
      refine AOp.of_run (ARun.mvV (.inl rfl) rfl) ?_
      refine AOps.want rfl rfl (by decide) rfl ?_
      refine AOps.step rfl rfl ?_
      refine AOp.of_run (ARun.mkI rfl (by kernel_rfl) rfl) ?_
      refine AOps.want rfl rfl (by decide) rfl ?_
      refine AOps.step rfl rfl (AOp.call_ rfl rfl ((Is_spec br i 2 2 _ hg).mono ?_))
      rintro _ _ ⟨rfl, rfl⟩
      refine AOps.step rfl rfl (AOp.of_run (ARun.pickF rfl rfl) ?_)
      refine AOps.step rfl rfl ?_
      refine AOp.of_run (ARun.mvV (.inl rfl) rfl) ?_
      refine AOps.passU rfl rfl (by decide) rfl rfl rfl ?_
      refine AOps.passU rfl rfl (by decide) rfl rfl rfl ?_
      refine AOps.passU rfl rfl (by decide) rfl rfl rfl ?_
      refine AOps.step rfl rfl (AOp.of_run (ARun.pickT rfl rfl) ?_)
      refine AOps.nil ?_
      (repeat (first | refine AC.seq ?_ | refine AC.block ?_ | refine AC.skip ?_)); refine AC.cond rfl (fun hc => ?_) (fun hc => ?_)
      case refine_2 => cases hc
      (repeat (first | refine AC.seq ?_ | refine AC.block ?_ | refine AC.skip ?_))
      refine AC.region ?_
      refine AOps.step rfl rfl ?_
      refine AOp.of_run (ARun.mvV (.inr rfl) rfl) ?_
      refine AOps.nil ?_
      refine AC.ret (ARes.le (Le.sub hsub) (ARes.one rfl (RV.V rfl) ⟨?_, rfl⟩))
      rw [chkE_no fun e => by obtain ⟨L, hL, _⟩ := e.2.2; rw [hno] at hL; cases hL]; rfl
  · obtain ⟨t1, rfl⟩ := hs.open_
    have hbc0 : bc ≠ b := (fresh_of hb0 hb).symm
    have hB : hset (hset H0 b (some (.cells (L.flatMap ePk) 157 (f.values.toNat * 2)))) bc (some (.cells (eChk f (.v (.slice (some ⟨b, 0, none⟩) f.values.toNat f.values.toNat)) nilS) 132 4)) b = some (.cells (L.flatMap ePk) 157 (f.values.toNat * 2)) := hset_skip hbc0.symm (hset_same _ _ _)
    have hC : hset (hset H0 b (some (.cells (L.flatMap ePk) 157 (f.values.toNat * 2)))) bc (some (.cells (eChk f (.v (.slice (some ⟨b, 0, none⟩) f.values.toNat f.values.toNat)) nilS) 132 4)) bc = some (.cells (eChk f (.v (.slice (some ⟨b, 0, none⟩) f.values.toNat f.values.toNat)) nilS) 132 4) := hset_same _ _ _
    have hS : HSub h (hset (hset (hset H0 b (some (.cells (L.flatMap ePk) 157 (f.values.toNat * 2)))) bc (some (.cells (eChk f (.v (.slice (some ⟨b, 0, none⟩) f.values.toNat f.values.toNat)) nilS) 132 4))) bc none) := fun c k e => by
      have h1 : c ≠ bc := by rintro rfl; rw [hbc] at e; cases e
      have h2 := hs0 c k e
      have h3 : c ≠ b := by rintro rfl; rw [hb] at h2; cases h2
      rw [hset_ne _ _ h1, hset_ne _ _ h1, hset_ne _ _ h3]; exact h2
    generalize hset (hset H0 b (some (.cells (L.flatMap ePk) 157 (f.values.toNat * 2)))) bc (some (.cells (eChk f (.v (.slice (some ⟨b, 0, none⟩) f.values.toNat f.values.toNat)) nilS) 132 4)) = G0 at *
    (repeat (first | refine AC.seq ?_ | refine AC.block ?_ | refine AC.skip ?_))
    refine AC.region ?_
    refine AOps.step rfl rfl ?_
    refine AOp.of_run (ARun.lss rfl rfl rfl) ?_
    refine AOps.nil ?_
    (repeat (first | refine AC.seq ?_ | refine AC.block ?_ | refine AC.skip ?_)); refine AC.cond rfl (fun hc => ?_) (fun hc => ?_)
    case refine_2 => cases hc
    (repeat (first | refine AC.seq ?_ | refine AC.block ?_ | refine AC.skip ?_ | refine AC.exit ?_))
    (repeat (first | refine AC.seq ?_ | refine AC.block ?_ | refine AC.skip ?_))
    refine AC.region ?_
    refine AOps.step rfl rfl ?_
    refine AOp.of_run (ARun.indexAddrL rfl rfl rfl (by omega) (by omega)) ?_
    refine AOps.step rfl rfl (AOp.of_run (ARun.loadL rfl rfl rfl) ?_)
    refine AOps.step rfl rfl ?_
    refine AOp.of_run (ARun.mvV (.inr rfl) rfl) ?_
    refine AOps.nil ?_
    (repeat (first | refine AC.seq ?_ | refine AC.block ?_ | refine AC.skip ?_))
    refine AC.region ?_
    refine AOps.step rfl rfl ?_
    refine AOp.of_run (ARun.mvV (.inl rfl) rfl) ?_
    refine AOps.step rfl rfl (AOp.call_ rfl rfl ((used_spec f nilS L f.values.toNat bc b _ z hne hw hLl hbc0 hB hC).mono ?_))
    rintro _ G ⟨U, hUl, hfin, ⟨hok, rfl, hsub⟩ | ⟨hno, br, i, rfl, hg, hsub⟩⟩
    · refine AOps.step rfl rfl ?_
      refine AOp.of_run (ARun.mvV (.inr rfl) rfl) ?_
      refine AOps.nil ?_
      (repeat (first | refine AC.seq ?_ | refine AC.block ?_ | refine AC.skip ?_))
      refine AC.region ?_
      refine AOps.step rfl rfl ?_
      refine AOp.of_run (ARun.mvV (.inl rfl) rfl) ?_
      refine AOps.step rfl rfl ?_
      refine AOp.of_run (ARun.mkI rfl (by kernel_rfl) rfl) ?_
      refine AOps.step rfl rfl (AOp.call_ rfl rfl ((Is_nil 1 _).mono ?_))
      rintro _ _ ⟨rfl, rfl⟩
      refine AOps.step rfl rfl ?_
      refine AOp.of_run (ARun.mvV (.inl rfl) rfl) ?_
      refine AOps.want rfl rfl (by decide) rfl ?_
      refine AOps.step rfl rfl ?_
      refine AOp.of_run (ARun.mvV (.inl rfl) rfl) ?_
      refine AOps.want rfl rfl (by decide) rfl ?_
      refine AOps.step rfl rfl ?_
      refine AOp.of_run (ARun.mkI rfl (by kernel_rfl) rfl) ?_
      refine AOps.want rfl rfl (by decide) rfl ?_
      refine AOps.step rfl rfl (AOp.call_ rfl rfl ((Is_nil 2 _).mono ?_))
      rintro _ _ ⟨rfl, rfl⟩
      refine AOps.step rfl rfl (AOp.of_run (ARun.pickF rfl rfl) ?_)
      refine AOps.step rfl rfl ?_
      refine AOp.of_run (ARun.mvV (.inl rfl) rfl) ?_
      refine AOps.want rfl rfl (by decide) rfl ?_
      refine AOps.step rfl rfl ?_
      refine AOp.of_run (ARun.mvV (.inl rfl) rfl) ?_
      refine AOps.want rfl rfl (by decide) rfl ?_
      refine AOps.step rfl rfl ?_
      refine AOp.of_run (ARun.mkI rfl (by kernel_rfl) rfl) ?_
      refine AOps.want rfl rfl (by decide) rfl ?_
      refine AOps.step rfl rfl (AOp.call_ rfl rfl ((Is_nil 3 _).mono ?_))
      rintro _ _ ⟨rfl, rfl⟩
      refine AOps.step rfl rfl (AOp.of_run (ARun.pickF rfl rfl) ?_)
      refine AOps.nil ?_
      (repeat (first | refine AC.seq ?_ | refine AC.block ?_ | refine AC.skip ?_)); refine AC.cond rfl (fun hc => ?_) (fun hc => ?_)
      · cases hc
      (repeat (first | refine AC.seq ?_ | refine AC.block ?_ | refine AC.skip ?_ | refine AC.exit ?_))
      (repeat (first | refine AC.seq ?_ | refine AC.block ?_ | refine AC.skip ?_))
      refine AC.region ?_
      refine AOps.step rfl rfl ?_
      refine AOp.of_run (ARun.add rfl rfl rfl) ?_
      refine AOps.step rfl rfl ?_
      refine AOp.of_run (ARun.mvV (.inl rfl) rfl) ?_
      refine AOps.nil ?_
      exact ⟨0, by decide, .inr (.inr (.inr ⟨rfl, ⟨rfl, rfl, rfl, trivial⟩, ⟨hsz, hw, L, hall, (usesU_D hne hw hfin (allMk_parts0 hall)).1 hok⟩, hS.trans hsub⟩))⟩
    · refine AOps.step rfl rfl ?_
      refine AOp.of_run (ARun.mvV (.inr rfl) rfl) ?_
      refine AOps.nil ?_
      (repeat (first | refine AC.seq ?_ | refine AC.block ?_ | refine AC.skip ?_))
      refine AC.region ?_
      refine AOps.step rfl rfl ?_
      refine AOp.of_run (ARun.mvV (.inl rfl) rfl) ?_
      refine AOps.step rfl rfl ?_
      refine AOp.of_run (ARun.mkI rfl (by kernel_rfl) rfl) ?_
      refine AOps.step rfl rfl (AOp.call_ rfl rfl ((Is_spec br i 3 1 _ hg).mono ?_))
      rintro _ _ ⟨rfl, rfl⟩
      refine AOps.step rfl rfl ?_
      refine AOp.of_run (ARun.mvV (.inl rfl) rfl) ?_
      refine AOps.want rfl rfl (by decide) rfl ?_
      refine AOps.step rfl rfl ?_
      refine AOp.of_run (ARun.mvV (.inl rfl) rfl) ?_
      refine AOps.want rfl rfl (by decide) rfl ?_
      refine AOps.step rfl rfl ?_
      refine AOp.of_run (ARun.mkI rfl (by kernel_rfl) rfl) ?_
      refine AOps.want rfl rfl (by decide) rfl ?_
      refine AOps.step rfl rfl (AOp.call_ rfl rfl ((Is_spec br i 3 2 _ hg).mono ?_))
      rintro _ _ ⟨rfl, rfl⟩
      refine AOps.step rfl rfl (AOp.of_run (ARun.pickF rfl rfl) ?_)
      refine AOps.step rfl rfl ?_
      refine AOp.of_run (ARun.mvV (.inl rfl) rfl) ?_
      refine AOps.want rfl rfl (by decide) rfl ?_
      refine AOps.step rfl rfl ?_
      refine AOp.of_run (ARun.mvV (.inl rfl) rfl) ?_
      refine AOps.want rfl rfl (by decide) rfl ?_
      refine AOps.step rfl rfl ?_
      refine AOp.of_run (ARun.mkI rfl (by kernel_rfl) rfl) ?_
      refine AOps.want rfl rfl (by decide) rfl ?_
      refine AOps.step rfl rfl (AOp.call_ rfl rfl ((Is_spec br i 3 3 _ hg).mono ?_))
      rintro _ _ ⟨rfl, rfl⟩
      refine AOps.step rfl rfl (AOp.of_run (ARun.pickF rfl rfl) ?_)
      refine AOps.nil ?_
      (repeat (first | refine AC.seq ?_ | refine AC.block ?_ | refine AC.skip ?_)); refine AC.cond rfl (fun hc => ?_) (fun hc => ?_)
      case refine_2 => cases hc
      (repeat (first | refine AC.seq ?_ | refine AC.block ?_ | refine AC.skip ?_))
      refine AC.region ?_
      refine AOps.step rfl rfl ?_
      refine AOp.of_run (ARun.mvV (.inr rfl) rfl) ?_
      refine AOps.nil ?_
      refine AC.ret (ARes.le (Le.sub (hS.trans hsub)) (ARes.one rfl (RV.V rfl) ⟨?_, rfl⟩))
      rw [chkE_no fun e => by
        obtain ⟨L', hL', hu⟩ := e.2.2
        rw [hall] at hL'
        obtain rfl := Option.some.inj hL'
        exact hno ((usesU_D hne hw hfin (allMk_parts0 hall)).2 hu)]; rfl
  · obtain ⟨t1, rfl⟩ := hs.open_
    (repeat (first | refine AC.seq ?_ | refine AC.block ?_ | refine AC.skip ?_))
    refine AC.region ?_
    refine AOps.step rfl rfl ?_
    refine AOp.of_run (ARun.lss rfl rfl rfl) ?_
    refine AOps.nil ?_
    (repeat (first | refine AC.seq ?_ | refine AC.block ?_ | refine AC.skip ?_)); refine AC.cond rfl (fun hc => ?_) (fun hc => ?_)
    · cases hc
    (repeat (first | refine AC.seq ?_ | refine AC.block ?_ | refine AC.skip ?_ | refine AC.exit ?_))
    (repeat (first | refine AC.seq ?_ | refine AC.block ?_ | refine AC.skip ?_))
    refine AC.region ?_
    refine AOps.step rfl rfl ?_
    refine AOp.of_run (ARun.mvV (.inr rfl) rfl) ?_
    refine AOps.nil ?_
    refine AC.ret (ARes.le (Le.sub hsub) (ARes.one rfl (RV.V rfl) ⟨?_, rfl⟩))
    rw [chkE_yes hok]; rfl
end Go.Proofs.Ytilanageangegaa

/- Walks of package mem: Check, areas. -/
set_option linter.unusedVariables false
namespace Go.Proofs.Ytilanageangegaa
open Go.Ab

structure DArea where
  size : Int
  write : Bool
structure DLay where
  ctx : DArea
  maps : List DArea
def eAr (a : DArea) : List AVal := [eI a.size, eB a.write]
theorem eArea_len (a : DArea) : (eAr a).length = 2 := rfl
def eArs (l : List DArea) : AVal := .ls l.length (l.flatMap eAr)
def eLay (l : DLay) : List AVal := [eI l.ctx.size, eB l.ctx.write, eArs l.maps]
def sizeOK (a : DArea) : Bool := !(decide (a.size < 1) || decide (4096 < a.size))
def layB (l : DLay) : Bool := !((decide (l.ctx.size < 0) || decide (4096 < l.ctx.size)) || decide ((8 : Int) < l.maps.length)) && l.maps.all sizeOK
def errL (b : Bool) : Int := if b = true then 0 else 22

set_option maxRecDepth 10000 in
theorem memCheck_spec (l : DLay) (h : AHeap) (hm : l.maps.length ≤ 1000000000) : Sp Try.prog 102 [.agg (eLay l)] h (fun r h' => r = eI (errL (layB l)) ∧ h' = h) := by
  refine Sp.of Try.func102 rfl rfl (by show 1 ≤ 37; decide) ?_
  (repeat (first | refine AC.seq ?_ | refine AC.block ?_ | refine AC.skip ?_))
  refine AC.region ?_
  refine AOps.step rfl rfl ?_
  refine AOp.boxL rfl rfl ?_
  refine AOps.step rfl rfl ?_
  refine AOp.of_run (ARun.mvV (.inr rfl) rfl) ?_
  refine AOps.nil ?_
  (repeat (first | refine AC.seq ?_ | refine AC.block ?_ | refine AC.skip ?_ | refine AC.exit ?_))
  refine AC.mono (Q := fun ex τ h2 => ex = .normal ∧ h2 = h ∧ Slots τ [(1, .lp (eLay l) 0), (20, eB ((decide (l.ctx.size < 0) || decide (4096 < l.ctx.size)) || decide ((8 : Int) < l.maps.length)))]) ?_ ?_
  · (repeat (first | refine AC.seq ?_ | refine AC.block ?_ | refine AC.skip ?_))
    refine AC.region ?_
    refine AOps.step rfl rfl ?_
    refine AOp.of_run (ARun.fieldAddrL rfl rfl) ?_
    refine AOps.step rfl rfl ?_
    refine AOp.of_run (ARun.fieldAddrL rfl rfl) ?_
    refine AOps.step rfl rfl ?_
    refine AOp.of_run (ARun.loadL rfl rfl rfl) ?_
    refine AOps.step rfl rfl ?_
    refine AOp.of_run (ARun.lss rfl rfl rfl) ?_
    refine AOps.step rfl rfl ?_
    refine AOp.of_run (ARun.mvV (.inl rfl) rfl) ?_
    cases g1 : decide (l.ctx.size < 0)
    · refine AOps.want rfl rfl (by decide) rfl ?_
      refine AOps.step rfl rfl ?_
      refine AOp.of_run (ARun.fieldAddrL rfl rfl) ?_
      refine AOps.want rfl rfl (by decide) rfl ?_
      refine AOps.step rfl rfl ?_
      refine AOp.of_run (ARun.fieldAddrL rfl rfl) ?_
      refine AOps.want rfl rfl (by decide) rfl ?_
      refine AOps.step rfl rfl ?_
      refine AOp.of_run (ARun.loadL rfl rfl rfl) ?_
      refine AOps.want rfl rfl (by decide) rfl ?_
      refine AOps.step rfl rfl ?_
      refine AOp.of_run (ARun.gtr rfl rfl rfl) ?_
      refine AOps.step rfl rfl (AOp.of_run (ARun.pickF rfl rfl) ?_)
      refine AOps.step rfl rfl ?_
      refine AOp.of_run (ARun.mvV (.inl rfl) rfl) ?_
      cases g2 : decide (4096 < l.ctx.size)
      · refine AOps.want rfl rfl (by decide) rfl ?_
        refine AOps.step rfl rfl ?_
        refine AOp.of_run (ARun.fieldAddrL rfl rfl) ?_
        refine AOps.want rfl rfl (by decide) rfl ?_
        refine AOps.step rfl rfl ?_
        refine AOp.of_run (ARun.loadL rfl rfl rfl) ?_
        refine AOps.want rfl rfl (by decide) rfl ?_
        refine AOps.step rfl rfl ?_
        refine AOp.of_run (ARun.lenL rfl rfl) ?_
        refine AOps.want rfl rfl (by decide) rfl ?_
        refine AOps.step rfl rfl ?_
        refine AOp.of_run (ARun.gtr rfl rfl rfl) ?_
        refine AOps.step rfl rfl (AOp.of_run (ARun.pickF rfl rfl) ?_)
        refine AOps.nil ?_
        exact ⟨rfl, rfl, rfl, rfl, trivial⟩
      · refine AOps.passU rfl rfl (by decide) rfl rfl rfl ?_
        refine AOps.passU rfl rfl (by decide) rfl rfl rfl ?_
        refine AOps.passU rfl rfl (by decide) rfl rfl rfl ?_
        refine AOps.passU rfl rfl (by decide) rfl rfl rfl ?_
        refine AOps.step rfl rfl (AOp.of_run (ARun.pickT rfl rfl) ?_)
        refine AOps.nil ?_
        exact ⟨rfl, rfl, rfl, rfl, trivial⟩
    · refine AOps.passU rfl rfl (by decide) rfl rfl rfl ?_
      refine AOps.passU rfl rfl (by decide) rfl rfl rfl ?_
      refine AOps.passU rfl rfl (by decide) rfl rfl rfl ?_
      refine AOps.passU rfl rfl (by decide) rfl rfl rfl ?_
      refine AOps.step rfl rfl (AOp.of_run (ARun.pickT rfl rfl) ?_)
      refine AOps.step rfl rfl ?_
      refine AOp.of_run (ARun.mvV (.inl rfl) rfl) ?_
      refine AOps.passU rfl rfl (by decide) rfl rfl rfl ?_
      refine AOps.passU rfl rfl (by decide) rfl rfl rfl ?_
      refine AOps.passU rfl rfl (by decide) rfl rfl rfl ?_
      refine AOps.passU rfl rfl (by decide) rfl rfl rfl ?_
      refine AOps.step rfl rfl (AOp.of_run (ARun.pickT rfl rfl) ?_)
      refine AOps.nil ?_
      exact ⟨rfl, rfl, rfl, rfl, trivial⟩
  rintro _ τ h6 ⟨rfl, rfl, hs⟩
  obtain ⟨t1, rfl⟩ := hs.open_
  (repeat (first | refine AC.seq ?_ | refine AC.block ?_ | refine AC.skip ?_)); refine AC.cond rfl (fun hc => ?_) (fun hc => ?_)
  · (repeat (first | refine AC.seq ?_ | refine AC.block ?_ | refine AC.skip ?_))
    refine AC.region ?_
    refine AOps.step rfl rfl ?_
    refine AOp.of_run (ARun.mvV (.inr rfl) rfl) ?_
    refine AOps.nil ?_
    refine AC.ret (ARes.one rfl (RV.V rfl) ⟨?_, rfl⟩)
    rw [layB, hc]; rfl
  have hfront := hc
  (repeat (first | refine AC.seq ?_ | refine AC.block ?_ | refine AC.skip ?_))
  refine AC.region ?_
  refine AOps.step rfl rfl ?_
  refine AOp.of_run (ARun.fieldAddrL rfl rfl) ?_
  refine AOps.step rfl rfl ?_
  refine AOp.of_run (ARun.loadL rfl rfl rfl) ?_
  refine AOps.step rfl rfl ?_
  refine AOp.of_run (ARun.lenL rfl rfl) ?_
  refine AOps.step rfl rfl ?_
  refine AOp.of_run (ARun.mvV (.inl rfl) rfl) ?_
  refine AOps.nil ?_
  (repeat (first | refine AC.seq ?_ | refine AC.block ?_ | refine AC.skip ?_ | refine AC.exit ?_))
  refine AC.loop (fun m τ h' => ∃ k, k ≤ l.maps.length ∧ m = l.maps.length - k ∧ Slots τ [(1, .lp (eLay l) 0), (22, eArs l.maps), (23, eI l.maps.length), (24, eI k)] ∧ (∀ i (hi : i < l.maps.length), i < k → sizeOK l.maps[i] = true) ∧ h' = h6) l.maps.length ?_ ?_
  · exact ⟨0, Nat.zero_le _, rfl, ⟨rfl, rfl, rfl, rfl, trivial⟩, fun i _ hi => by omega, rfl⟩
  rintro m τ h7 ⟨k, hk, rfl, hs, hall, rfl⟩
  obtain ⟨t0, rfl⟩ := hs.open_
  (repeat (first | refine AC.seq ?_ | refine AC.block ?_ | refine AC.skip ?_))
  refine AC.region ?_
  refine AOps.step rfl rfl ?_
  refine AOp.of_run (ARun.lss rfl rfl rfl) ?_
  refine AOps.nil ?_
  (repeat (first | refine AC.seq ?_ | refine AC.block ?_ | refine AC.skip ?_)); refine AC.cond rfl (fun hc => ?_) (fun hc => ?_)
  · have hlt : k < l.maps.length := by simpa using hc
    have g1 : rdc (l.maps.flatMap eAr) ((k : Int).toNat * 2) 2 = some (eAr l.maps[k]) := by rw [Int.toNat_natCast]; exact rdc_flatMap eArea_len hlt
    have hgo : sizeOK l.maps[k] = true → ∀ i (hi : i < l.maps.length), i < k + 1 → sizeOK l.maps[i] = true := fun e i hi hik => by
      rcases Nat.lt_or_ge i k with c | c
      · exact hall i hi c
      · obtain rfl : i = k := by omega
        exact e
    have hbad : sizeOK l.maps[k] = false → l.maps.all sizeOK = false := fun e => by
      rw [List.all_eq_false]; exact ⟨_, List.getElem_mem hlt, by rw [e]; simp⟩
    generalize l.maps[k] = a at *
    (repeat (first | refine AC.seq ?_ | refine AC.block ?_ | refine AC.skip ?_ | refine AC.exit ?_))
    (repeat (first | refine AC.seq ?_ | refine AC.block ?_ | refine AC.skip ?_))
    refine AC.region ?_
    refine AOps.step rfl rfl ?_
    refine AOp.of_run (ARun.indexAddrL rfl rfl rfl (by omega) (by omega)) ?_
    refine AOps.step rfl rfl (AOp.of_run (ARun.loadNL rfl rfl g1) ?_)
    refine AOps.step rfl rfl (AOp.alloc rfl (fun b4 hb4 => ?_))
    refine AOps.step rfl rfl (AOp.store rfl rfl (hset_same _ _ _) rfl ?_)
    refine AOps.nil ?_
    refine AC.le (Le.freezeNew (d := 4) hb4 rfl) ?_
    (repeat (first | refine AC.seq ?_ | refine AC.block ?_ | refine AC.skip ?_ | refine AC.exit ?_))
    refine AC.mono (Q := fun ex τ h2 => ex = .normal ∧ h2 = h7 ∧ Slots τ [(1, .lp (eLay l) 0), (22, eArs l.maps), (23, eI l.maps.length), (24, eI k), (35, eB (decide (a.size < 1) || decide (4096 < a.size)))]) ?_ ?_
    · (repeat (first | refine AC.seq ?_ | refine AC.block ?_ | refine AC.skip ?_))
      refine AC.region ?_
      refine AOps.step rfl rfl ?_
      refine AOp.of_run (ARun.fieldAddrL rfl rfl) ?_
      refine AOps.step rfl rfl ?_
      refine AOp.of_run (ARun.loadL rfl rfl rfl) ?_
      refine AOps.step rfl rfl ?_
      refine AOp.of_run (ARun.lss rfl rfl rfl) ?_
      refine AOps.step rfl rfl ?_
      refine AOp.of_run (ARun.mvV (.inl rfl) rfl) ?_
      cases g2 : decide (a.size < 1)
      · refine AOps.want rfl rfl (by decide) rfl ?_
        refine AOps.step rfl rfl ?_
        refine AOp.of_run (ARun.fieldAddrL rfl rfl) ?_
        refine AOps.want rfl rfl (by decide) rfl ?_
        refine AOps.step rfl rfl ?_
        refine AOp.of_run (ARun.loadL rfl rfl rfl) ?_
        refine AOps.want rfl rfl (by decide) rfl ?_
        refine AOps.step rfl rfl ?_
        refine AOp.of_run (ARun.gtr rfl rfl rfl) ?_
        refine AOps.step rfl rfl (AOp.of_run (ARun.pickF rfl rfl) ?_)
        refine AOps.nil ?_
        exact ⟨rfl, rfl, rfl, rfl, rfl, rfl, rfl, trivial⟩
      · refine AOps.passU rfl rfl (by decide) rfl rfl rfl ?_
        refine AOps.passU rfl rfl (by decide) rfl rfl rfl ?_
        refine AOps.passU rfl rfl (by decide) rfl rfl rfl ?_
        refine AOps.step rfl rfl (AOp.of_run (ARun.pickT rfl rfl) ?_)
        refine AOps.nil ?_
        exact ⟨rfl, rfl, rfl, rfl, rfl, rfl, rfl, trivial⟩
    rintro _ τ h8 ⟨rfl, rfl, hs⟩
    obtain ⟨t2, rfl⟩ := hs.open_
    (repeat (first | refine AC.seq ?_ | refine AC.block ?_ | refine AC.skip ?_)); refine AC.cond rfl (fun hc => ?_) (fun hc => ?_)
    · (repeat (first | refine AC.seq ?_ | refine AC.block ?_ | refine AC.skip ?_))
      refine AC.region ?_
      refine AOps.step rfl rfl ?_
      refine AOp.of_run (ARun.mvV (.inr rfl) rfl) ?_
      refine AOps.nil ?_
      refine AC.ret (ARes.one rfl (RV.V rfl) ⟨?_, rfl⟩)
      rw [layB, hbad (by rw [sizeOK, hc]; rfl), Bool.and_false]; rfl
    · (repeat (first | refine AC.seq ?_ | refine AC.block ?_ | refine AC.skip ?_ | refine AC.exit ?_))
      (repeat (first | refine AC.seq ?_ | refine AC.block ?_ | refine AC.skip ?_))
      refine AC.region ?_
      refine AOps.step rfl rfl ?_
      refine AOp.of_run (ARun.add rfl rfl rfl) ?_
      refine AOps.step rfl rfl ?_
      refine AOp.of_run (ARun.mvV (.inl rfl) rfl) ?_
      refine AOps.nil ?_
      exact ⟨_, by omega, k + 1, hlt, rfl, ⟨rfl, rfl, rfl, eI_wrap (by omega) (by omega) (by omega), trivial⟩, hgo (by rw [sizeOK, hc]; rfl), rfl⟩
  · have hge : k = l.maps.length := by simp at hc; omega
    (repeat (first | refine AC.seq ?_ | refine AC.block ?_ | refine AC.skip ?_ | refine AC.exit ?_))
    (repeat (first | refine AC.seq ?_ | refine AC.block ?_ | refine AC.skip ?_))
    refine AC.region ?_
    refine AOps.step rfl rfl ?_
    refine AOp.of_run (ARun.mvV (.inr rfl) rfl) ?_
    refine AOps.nil ?_
    refine AC.ret (ARes.one rfl (RV.V rfl) ⟨?_, rfl⟩)
    have : l.maps.all sizeOK = true := List.all_eq_true.2 fun x hx => by
      obtain ⟨i, hi, rfl⟩ := List.getElem_of_mem hx
      exact hall i hi (by omega)
    rw [layB, hfront, this]; rfl
end Go.Proofs.Ytilanageangegaa

/- Walks of package mem (2): areas, Area. -/
set_option linter.unusedVariables false
namespace Go.Proofs.Ytilanageangegaa
open Go.Ab

def areasL (l : DLay) : List DArea := if layB l = true then [l.ctx, ⟨512, true⟩] ++ l.maps else []
def areaOf (l : DLay) (r : Int) : Option DArea := if 1 ≤ r ∧ r ≤ (areasL l).length then (areasL l)[(r - 1).toNat]? else none

set_option maxRecDepth 10000 in
theorem areas_spec (l : DLay) (h : AHeap) (hm : l.maps.length ≤ 1000000) : Sp Try.prog 74 [.agg (eLay l)] h (fun r h' => r = eArs (areasL l) ∧ h' = h) := by
  refine Sp.of Try.func74 rfl rfl (by show 1 ≤ 13; decide) ?_
  (repeat (first | refine AC.seq ?_ | refine AC.block ?_ | refine AC.skip ?_))
  refine AC.region ?_
  refine AOps.step rfl rfl ?_
  refine AOp.boxL rfl rfl ?_
  refine AOps.step rfl rfl ?_
  refine AOp.of_run (ARun.mvV (.inr rfl) rfl) ?_
  refine AOps.nil ?_
  (repeat (first | refine AC.seq ?_ | refine AC.block ?_ | refine AC.skip ?_))
  refine AC.region ?_
  refine AOps.step rfl rfl (AOp.of_run (ARun.loadNL rfl rfl rfl) ?_)
  refine AOps.step rfl rfl (AOp.call_ rfl rfl ((memCheck_spec l h (by omega)).mono ?_))
  rintro _ _ ⟨rfl, rfl⟩
  refine AOps.step rfl rfl ?_
  refine AOp.of_run (ARun.neq rfl rfl rfl) ?_
  refine AOps.nil ?_
  (repeat (first | refine AC.seq ?_ | refine AC.block ?_ | refine AC.skip ?_)); refine AC.cond rfl (fun hc => ?_) (fun hc => ?_)
  · have hl : layB l = false := by
      cases e : layB l
      · rfl
      · rw [e] at hc; cases hc
    (repeat (first | refine AC.seq ?_ | refine AC.block ?_ | refine AC.skip ?_))
    refine AC.region ?_
    refine AOps.step rfl rfl ?_
    refine AOp.of_run (ARun.mvV (.inr rfl) rfl) ?_
    refine AOps.nil ?_
    rename_i h
    refine AC.ret (ARes.le (Le.freezeOwn (d := 2) (Own.nil h 23 2)) (ARes.one rfl (RV.L rfl) ⟨?_, rfl⟩))
    rw [areasL, hl]; rfl
  · have hl : layB l = true := by
      cases e : layB l
      · rw [e] at hc; cases hc
      · rfl
    (repeat (first | refine AC.seq ?_ | refine AC.block ?_ | refine AC.skip ?_))
    refine AC.region ?_
    refine AOps.step rfl rfl ?_
    refine AOp.of_run (ARun.fieldAddrL rfl rfl) ?_
    refine AOps.step rfl rfl (AOp.of_run (ARun.loadNL rfl rfl rfl) ?_)
    refine AOps.step rfl rfl ?_
    refine AOp.of_run (ARun.build rfl) ?_
    refine AOps.step rfl rfl (AOp.buildOwn rfl (fun x1 h1 ho1 => ?_))
    refine AOps.step rfl rfl ?_
    refine AOp.of_run (ARun.fieldAddrL rfl rfl) ?_
    refine AOps.step rfl rfl (AOp.of_run (ARun.loadL rfl rfl rfl) ?_)
    refine AOps.step rfl rfl (AOp.append rfl ho1 (RdSl.ls (flatMap_length _ _ eArea_len l.maps)) (by unfold maxLen; omega) (by omega) (fun x2 h2 ho2 => ?_) (all_flatMap (fun _ => rfl) _))
    refine AOps.step rfl rfl ?_
    refine AOp.of_run (ARun.assign rfl) ?_
    refine AOps.nil ?_
    refine AC.ret (ARes.le (Le.freezeOwn (d := 2) ho2) (ARes.one rfl (RV.L rfl) ⟨?_, rfl⟩))
    rw [areasL, if_pos hl, eArs, List.flatMap_append, List.length_append]; rfl

set_option maxRecDepth 10000 in
theorem Area_spec (l : DLay) (r : Int) (h : AHeap) (hm : l.maps.length ≤ 1000000) : Sp Try.prog 46 [.agg (eLay l), eI r] h (fun x h' => x = .tup [.agg (eAr ((areaOf l r).getD ⟨0, false⟩)), eB (areaOf l r).isSome] ∧ h' = h) := by
  refine Sp.of Try.func46 rfl rfl (by show 2 ≤ 23; decide) ?_
  (repeat (first | refine AC.seq ?_ | refine AC.block ?_ | refine AC.skip ?_))
  refine AC.region ?_
  refine AOps.step rfl rfl ?_
  refine AOp.boxL rfl rfl ?_
  refine AOps.step rfl rfl (AOp.alloc rfl (fun b hb => ?_))
  refine AOps.step rfl rfl ?_
  refine AOp.of_run (ARun.mvV (.inr rfl) rfl) ?_
  refine AOps.nil ?_
  (repeat (first | refine AC.seq ?_ | refine AC.block ?_ | refine AC.skip ?_))
  refine AC.region ?_
  refine AOps.step rfl rfl (AOp.of_run (ARun.loadNL rfl rfl rfl) ?_)
  refine AOps.step rfl rfl (AOp.call_ rfl rfl ((areas_spec l _ hm).mono ?_))
  rintro _ _ ⟨rfl, rfl⟩
  refine AOps.step rfl rfl ?_
  refine AOp.of_run (ARun.mvL (.inr rfl) rfl) ?_
  refine AOps.nil ?_
  have hlen : (areasL l).length ≤ 1000002 := by unfold areasL; split <;> simp; omega
  have hnone : ¬ (1 ≤ r ∧ r ≤ (areasL l).length) → areaOf l r = none := fun e => by rw [areaOf, if_neg e]
  have hsome : ∀ (e : 1 ≤ r ∧ r ≤ (areasL l).length), areaOf l r = some ((areasL l)[(r - 1).toNat]'(by omega)) := fun e => by rw [areaOf, if_pos e]; exact List.getElem?_eq_getElem _
  (repeat (first | refine AC.seq ?_ | refine AC.block ?_ | refine AC.skip ?_ | refine AC.exit ?_))
  refine AC.mono (Q := fun ex τ h2 => ex = .normal ∧ h2 = hset h b (some (.cells [.v (.int .i64 0), .v (.bool false)] 23 2)) ∧ Slots τ [(1, eI r), (4, .v (ptr b)), (5, eB false), (6, eArs (areasL l)), (16, eB (decide (1 ≤ r) && decide (r ≤ (areasL l).length)))]) ?_ ?_
  · (repeat (first | refine AC.seq ?_ | refine AC.block ?_ | refine AC.skip ?_))
    refine AC.region ?_
    refine AOps.step rfl rfl ?_
    refine AOp.of_run (ARun.mvV (.inl rfl) rfl) ?_
    refine AOps.step rfl rfl ?_
    refine AOp.of_run (ARun.geq rfl rfl rfl) ?_
    refine AOps.step rfl rfl ?_
    refine AOp.of_run (ARun.mvV (.inl rfl) rfl) ?_
    cases g1 : decide (1 ≤ r)
    · refine AOps.passU rfl rfl (by decide) rfl rfl rfl ?_
      refine AOps.passU rfl rfl (by decide) rfl rfl rfl ?_
      refine AOps.passU rfl rfl (by decide) rfl rfl rfl ?_
      refine AOps.passU rfl rfl (by decide) rfl rfl rfl ?_
      refine AOps.step rfl rfl (AOp.of_run (ARun.pickF rfl rfl) ?_)
      refine AOps.nil ?_
      exact ⟨rfl, rfl, rfl, rfl, rfl, rfl, rfl, trivial⟩
    · refine AOps.want rfl rfl (by decide) rfl ?_
      refine AOps.step rfl rfl ?_
      refine AOp.of_run (ARun.mvV (.inl rfl) rfl) ?_
      refine AOps.want rfl rfl (by decide) rfl ?_
      refine AOps.step rfl rfl ?_
      refine AOp.of_run (ARun.mvL (.inl rfl) rfl) ?_
      refine AOps.want rfl rfl (by decide) rfl ?_
      refine AOps.step rfl rfl ?_
      refine AOp.of_run (ARun.lenL rfl rfl) ?_
      refine AOps.want rfl rfl (by decide) rfl ?_
      refine AOps.step rfl rfl ?_
      refine AOp.of_run (ARun.leq rfl rfl rfl) ?_
      refine AOps.step rfl rfl (AOp.of_run (ARun.pickT rfl rfl) ?_)
      refine AOps.nil ?_
      exact ⟨rfl, rfl, rfl, rfl, rfl, rfl, rfl, trivial⟩
  rintro _ τ _ ⟨rfl, rfl, hs⟩
  obtain ⟨t1, rfl⟩ := hs.open_
  (repeat (first | refine AC.seq ?_ | refine AC.block ?_ | refine AC.skip ?_)); refine AC.cond rfl (fun hc => ?_) (fun hc => ?_)
  · have hr : 1 ≤ r ∧ r ≤ (areasL l).length := by simpa using hc
    have hw : IntKind.i64.wrap (r - 1) = r - 1 := wrap_i64 (by omega) (by omega)
    have hlt : (r - 1).toNat < (areasL l).length := by omega
    have g1 : rdc ((areasL l).flatMap eAr) ((IntKind.i64.wrap (r - 1)).toNat * 2) 2 = some (eAr (areasL l)[(r - 1).toNat]) := by rw [hw]; exact rdc_flatMap eArea_len hlt
    (repeat (first | refine AC.seq ?_ | refine AC.block ?_ | refine AC.skip ?_))
    refine AC.region ?_
    refine AOps.step rfl rfl ?_
    refine AOp.of_run (ARun.mvL (.inl rfl) rfl) ?_
    refine AOps.step rfl rfl ?_
    refine AOp.of_run (ARun.mvV (.inl rfl) rfl) ?_
    refine AOps.step rfl rfl ?_
    refine AOp.of_run (ARun.sub rfl rfl rfl) ?_
    refine AOps.step rfl rfl (AOp.of_run (ARun.indexAddrL rfl rfl rfl (by omega) (by omega)) ?_)
    refine AOps.step rfl rfl (AOp.of_run (ARun.loadNL rfl rfl g1) ?_)
    refine AOps.step rfl rfl (AOp.store rfl rfl (hset_same _ _ _) rfl ?_)
    refine AOps.step rfl rfl ?_
    refine AOp.of_run (ARun.mvV (.inr rfl) rfl) ?_
    refine AOps.nil ?_
    refine AC.ret (ARes.le (Le.freezeNew (d := 4) hb rfl) (ARes.two rfl (RV.cellNL rfl rfl) RV.tmp ⟨?_, rfl⟩))
    rw [hsome hr]; rfl
  · have hr : ¬ (1 ≤ r ∧ r ≤ (areasL l).length) := by simpa using hc
    (repeat (first | refine AC.seq ?_ | refine AC.block ?_ | refine AC.skip ?_ | refine AC.exit ?_))
    (repeat (first | refine AC.seq ?_ | refine AC.block ?_ | refine AC.skip ?_))
    refine AC.region ?_
    refine AOps.step rfl rfl ?_
    refine AOp.of_run (ARun.build rfl) ?_
    refine AOps.step rfl rfl (AOp.store rfl rfl (hset_same _ _ _) rfl ?_)
    refine AOps.step rfl rfl ?_
    refine AOp.of_run (ARun.mvV (.inr rfl) rfl) ?_
    refine AOps.nil ?_
    refine AC.ret (ARes.le (Le.freezeNew (d := 4) hb rfl) (ARes.two rfl (RV.cellNL rfl rfl) RV.tmp ⟨?_, rfl⟩))
    rw [hnone hr]; rfl
end Go.Proofs.Ytilanageangegaa

/- Walks of package checks (1): Proves. -/
set_option linter.unusedVariables false
namespace Go.Proofs.Ytilanageangegaa
open Go.Ab

structure DFact where
  seen : Bool
  region : Int
  low : Int
  high : Int
def eFact (f : DFact) : List AVal := [eB f.seen, eI f.region, eI f.low, eI f.high]
theorem eFact_len (f : DFact) : (eFact f).length = 4 := rfl
def badB (ok : Bool) (a : DArea) (seen : Bool) (size : Int) (write : Bool) : Bool := (((!ok || !seen) || decide (size < 1)) || decide (a.size < size)) || (write && !a.write)
def fitB (a : DArea) (f : DFact) (size : Int) : Bool := (decide (0 ≤ f.low) && decide (f.low ≤ f.high)) && decide (f.high ≤ IntKind.i64.wrap (a.size - size))
def provB (l : DLay) (f : DFact) (size : Int) (write : Bool) : Bool := !(badB (areaOf l f.region).isSome ((areaOf l f.region).getD ⟨0, false⟩) f.seen size write) && fitB ((areaOf l f.region).getD ⟨0, false⟩) f size

set_option maxRecDepth 10000 in
theorem Proves_spec (l : DLay) (f : DFact) (size : Int) (write : Bool) (h : AHeap) (hm : l.maps.length ≤ 1000000) : Sp Try.prog 16 [.agg (eLay l), .agg (eFact f), eI size, eB write] h (fun r h' => r = eB (provB l f size write) ∧ h' = h) := by
  refine Sp.of Try.func16 rfl rfl (by show 4 ≤ 62; decide) ?_
  (repeat (first | refine AC.seq ?_ | refine AC.block ?_ | refine AC.skip ?_))
  refine AC.region ?_
  refine AOps.step rfl rfl ?_
  refine AOp.boxL rfl rfl ?_
  refine AOps.step rfl rfl ?_
  refine AOp.boxL rfl rfl ?_
  refine AOps.step rfl rfl ?_
  refine AOp.of_run (ARun.mvV (.inr rfl) rfl) ?_
  refine AOps.nil ?_
  (repeat (first | refine AC.seq ?_ | refine AC.block ?_ | refine AC.skip ?_))
  refine AC.region ?_
  refine AOps.step rfl rfl (AOp.of_run (ARun.loadNL rfl rfl rfl) ?_)
  refine AOps.step rfl rfl ?_
  refine AOp.of_run (ARun.fieldAddrL rfl rfl) ?_
  refine AOps.step rfl rfl ?_
  refine AOp.of_run (ARun.loadL rfl rfl rfl) ?_
  refine AOps.step rfl rfl (AOp.call_ rfl rfl ((Area_spec l f.region h hm).mono ?_))
  rintro _ _ ⟨rfl, rfl⟩
  rename_i h
  unfold provB
  generalize (areaOf l f.region).isSome = ok
  generalize (areaOf l f.region).getD ⟨0, false⟩ = a
  refine AOps.step rfl rfl ?_
  refine AOp.of_run (ARun.mvT (.inl rfl) rfl) ?_
  refine AOps.step rfl rfl ?_
  refine AOp.of_run (ARun.extract rfl rfl rfl) ?_
  refine AOps.step rfl rfl ?_
  refine AOp.of_run (ARun.extract rfl rfl rfl) ?_
  refine AOps.step rfl rfl (AOp.alloc rfl (fun b hb => ?_))
  refine AOps.step rfl rfl (AOp.store rfl rfl (hset_same _ _ _) rfl ?_)
  refine AOps.step rfl rfl ?_
  refine AOp.of_run (ARun.mvV (.inr rfl) rfl) ?_
  refine AOps.nil ?_
  refine AC.le (Le.freezeNew (d := 9) hb rfl) ?_
  (repeat (first | refine AC.seq ?_ | refine AC.block ?_ | refine AC.skip ?_ | refine AC.exit ?_))
  refine AC.mono (Q := fun ex τ h2 => ex = .normal ∧ h2 = h ∧ Slots τ [(2, eI size), (5, .lp (eFact f) 0), (9, .lp (eAr a) 0), (42, eB (badB ok a f.seen size write))]) ?_ ?_
  · unfold badB
    (repeat (first | refine AC.seq ?_ | refine AC.block ?_ | refine AC.skip ?_))
    refine AC.region ?_
    refine AOps.step rfl rfl ?_
    refine AOp.of_run (ARun.mvV (.inl rfl) rfl) ?_
    refine AOps.step rfl rfl ?_
    refine AOp.of_run (ARun.not rfl rfl) ?_
    refine AOps.step rfl rfl ?_
    refine AOp.of_run (ARun.mvV (.inl rfl) rfl) ?_
    cases ok
    · refine AOps.passU rfl rfl (by decide) rfl rfl rfl ?_
      refine AOps.passU rfl rfl (by decide) rfl rfl rfl ?_
      refine AOps.passU rfl rfl (by decide) rfl rfl rfl ?_
      refine AOps.step rfl rfl (AOp.of_run (ARun.pickT rfl rfl) ?_)
      refine AOps.step rfl rfl ?_
      refine AOp.of_run (ARun.mvV (.inl rfl) rfl) ?_
      refine AOps.passU rfl rfl (by decide) rfl rfl rfl ?_
      refine AOps.passU rfl rfl (by decide) rfl rfl rfl ?_
      refine AOps.step rfl rfl (AOp.of_run (ARun.pickT rfl rfl) ?_)
      refine AOps.step rfl rfl ?_
      refine AOp.of_run (ARun.mvV (.inl rfl) rfl) ?_
      refine AOps.passU rfl rfl (by decide) rfl rfl rfl ?_
      refine AOps.passU rfl rfl (by decide) rfl rfl rfl ?_
      refine AOps.passU rfl rfl (by decide) rfl rfl rfl ?_
      refine AOps.passU rfl rfl (by decide) rfl rfl rfl ?_
      refine AOps.step rfl rfl (AOp.of_run (ARun.pickT rfl rfl) ?_)
      refine AOps.step rfl rfl ?_
      refine AOp.of_run (ARun.mvV (.inl rfl) rfl) ?_
      refine AOps.passU rfl rfl (by decide) rfl rfl rfl ?_
      refine AOps.passU rfl rfl (by decide) rfl rfl rfl ?_
      refine AOps.passU rfl rfl (by decide) rfl rfl rfl ?_
      refine AOps.passU rfl rfl (by decide) rfl rfl rfl ?_
      refine AOps.passU rfl rfl (by decide) rfl rfl rfl ?_
      refine AOps.passU rfl rfl (by decide) rfl rfl rfl ?_
      refine AOps.step rfl rfl (AOp.of_run (ARun.pickT rfl rfl) ?_)
      refine AOps.nil ?_
      exact ⟨rfl, rfl, rfl, rfl, rfl, rfl, trivial⟩
    refine AOps.want rfl rfl (by decide) rfl ?_
    refine AOps.step rfl rfl ?_
    refine AOp.of_run (ARun.fieldAddrL rfl rfl) ?_
    refine AOps.want rfl rfl (by decide) rfl ?_
    refine AOps.step rfl rfl ?_
    refine AOp.of_run (ARun.loadL rfl rfl rfl) ?_
    refine AOps.want rfl rfl (by decide) rfl ?_
    refine AOps.step rfl rfl ?_
    refine AOp.of_run (ARun.not rfl rfl) ?_
    refine AOps.step rfl rfl (AOp.of_run (ARun.pickF rfl rfl) ?_)
    refine AOps.step rfl rfl ?_
    refine AOp.of_run (ARun.mvV (.inl rfl) rfl) ?_
    cases hs : f.seen
    · refine AOps.passU rfl rfl (by decide) rfl rfl rfl ?_
      refine AOps.passU rfl rfl (by decide) rfl rfl rfl ?_
      refine AOps.step rfl rfl (AOp.of_run (ARun.pickT rfl rfl) ?_)
      refine AOps.step rfl rfl ?_
      refine AOp.of_run (ARun.mvV (.inl rfl) rfl) ?_
      refine AOps.passU rfl rfl (by decide) rfl rfl rfl ?_
      refine AOps.passU rfl rfl (by decide) rfl rfl rfl ?_
      refine AOps.passU rfl rfl (by decide) rfl rfl rfl ?_
      refine AOps.passU rfl rfl (by decide) rfl rfl rfl ?_
      refine AOps.step rfl rfl (AOp.of_run (ARun.pickT rfl rfl) ?_)
      refine AOps.step rfl rfl ?_
      refine AOp.of_run (ARun.mvV (.inl rfl) rfl) ?_
      refine AOps.passU rfl rfl (by decide) rfl rfl rfl ?_
      refine AOps.passU rfl rfl (by decide) rfl rfl rfl ?_
      refine AOps.passU rfl rfl (by decide) rfl rfl rfl ?_
      refine AOps.passU rfl rfl (by decide) rfl rfl rfl ?_
      refine AOps.passU rfl rfl (by decide) rfl rfl rfl ?_
      refine AOps.passU rfl rfl (by decide) rfl rfl rfl ?_
      refine AOps.step rfl rfl (AOp.of_run (ARun.pickT rfl rfl) ?_)
      refine AOps.nil ?_
      exact ⟨rfl, rfl, rfl, rfl, rfl, rfl, trivial⟩
    refine AOps.want rfl rfl (by decide) rfl ?_
    refine AOps.step rfl rfl ?_
    refine AOp.of_run (ARun.mvV (.inl rfl) rfl) ?_
    refine AOps.want rfl rfl (by decide) rfl ?_
    refine AOps.step rfl rfl ?_
    refine AOp.of_run (ARun.lss rfl rfl rfl) ?_
    refine AOps.step rfl rfl (AOp.of_run (ARun.pickF rfl rfl) ?_)
    refine AOps.step rfl rfl ?_
    refine AOp.of_run (ARun.mvV (.inl rfl) rfl) ?_
    cases g1 : decide (size < 1)
    case true =>
      refine AOps.passU rfl rfl (by decide) rfl rfl rfl ?_
      refine AOps.passU rfl rfl (by decide) rfl rfl rfl ?_
      refine AOps.passU rfl rfl (by decide) rfl rfl rfl ?_
      refine AOps.passU rfl rfl (by decide) rfl rfl rfl ?_
      refine AOps.step rfl rfl (AOp.of_run (ARun.pickT rfl rfl) ?_)
      refine AOps.step rfl rfl ?_
      refine AOp.of_run (ARun.mvV (.inl rfl) rfl) ?_
      refine AOps.passU rfl rfl (by decide) rfl rfl rfl ?_
      refine AOps.passU rfl rfl (by decide) rfl rfl rfl ?_
      refine AOps.passU rfl rfl (by decide) rfl rfl rfl ?_
      refine AOps.passU rfl rfl (by decide) rfl rfl rfl ?_
      refine AOps.passU rfl rfl (by decide) rfl rfl rfl ?_
      refine AOps.passU rfl rfl (by decide) rfl rfl rfl ?_
      refine AOps.step rfl rfl (AOp.of_run (ARun.pickT rfl rfl) ?_)
      refine AOps.nil ?_
      exact ⟨rfl, rfl, rfl, rfl, rfl, rfl, trivial⟩
    refine AOps.want rfl rfl (by decide) rfl ?_
    refine AOps.step rfl rfl ?_
    refine AOp.of_run (ARun.mvV (.inl rfl) rfl) ?_
    refine AOps.want rfl rfl (by decide) rfl ?_
    refine AOps.step rfl rfl ?_
    refine AOp.of_run (ARun.fieldAddrL rfl rfl) ?_
    refine AOps.want rfl rfl (by decide) rfl ?_
    refine AOps.step rfl rfl ?_
    refine AOp.of_run (ARun.loadL rfl rfl rfl) ?_
    refine AOps.want rfl rfl (by decide) rfl ?_
    refine AOps.step rfl rfl ?_
    refine AOp.of_run (ARun.gtr rfl rfl rfl) ?_
    refine AOps.step rfl rfl (AOp.of_run (ARun.pickF rfl rfl) ?_)
    refine AOps.step rfl rfl ?_
    refine AOp.of_run (ARun.mvV (.inl rfl) rfl) ?_
    cases g2 : decide (a.size < size)
    case true =>
      refine AOps.passU rfl rfl (by decide) rfl rfl rfl ?_
      refine AOps.passU rfl rfl (by decide) rfl rfl rfl ?_
      refine AOps.passU rfl rfl (by decide) rfl rfl rfl ?_
      refine AOps.passU rfl rfl (by decide) rfl rfl rfl ?_
      refine AOps.passU rfl rfl (by decide) rfl rfl rfl ?_
      refine AOps.passU rfl rfl (by decide) rfl rfl rfl ?_
      refine AOps.step rfl rfl (AOp.of_run (ARun.pickT rfl rfl) ?_)
      refine AOps.nil ?_
      exact ⟨rfl, rfl, rfl, rfl, rfl, rfl, trivial⟩
    refine AOps.want rfl rfl (by decide) rfl ?_
    refine AOps.step rfl rfl ?_
    refine AOp.of_run (ARun.mvV (.inl rfl) rfl) ?_
    refine AOps.want rfl rfl (by decide) rfl ?_
    refine AOps.step rfl rfl ?_
    refine AOp.of_run (ARun.mvV (.inl rfl) rfl) ?_
    cases write
    · refine AOps.passU rfl rfl (by decide) rfl rfl rfl ?_
      refine AOps.passU rfl rfl (by decide) rfl rfl rfl ?_
      refine AOps.passU rfl rfl (by decide) rfl rfl rfl ?_
      refine AOps.want rfl rfl (by decide) rfl ?_
      refine AOps.step rfl rfl (AOp.of_run (ARun.pickF rfl rfl) ?_)
      refine AOps.step rfl rfl (AOp.of_run (ARun.pickF rfl rfl) ?_)
      refine AOps.nil ?_
      exact ⟨rfl, rfl, rfl, rfl, rfl, rfl, trivial⟩
    · refine AOps.want rfl rfl (by decide) rfl ?_
      refine AOps.step rfl rfl ?_
      refine AOp.of_run (ARun.fieldAddrL rfl rfl) ?_
      refine AOps.want rfl rfl (by decide) rfl ?_
      refine AOps.step rfl rfl ?_
      refine AOp.of_run (ARun.loadL rfl rfl rfl) ?_
      refine AOps.want rfl rfl (by decide) rfl ?_
      refine AOps.step rfl rfl ?_
      refine AOp.of_run (ARun.not rfl rfl) ?_
      refine AOps.want rfl rfl (by decide) rfl ?_
      refine AOps.step rfl rfl (AOp.of_run (ARun.pickT rfl rfl) ?_)
      refine AOps.step rfl rfl (AOp.of_run (ARun.pickF rfl rfl) ?_)
      refine AOps.nil ?_
      exact ⟨rfl, rfl, rfl, rfl, rfl, rfl, trivial⟩
  rintro _ τ h6 ⟨rfl, rfl, hs⟩
  obtain ⟨t1, rfl⟩ := hs.open_
  (repeat (first | refine AC.seq ?_ | refine AC.block ?_ | refine AC.skip ?_)); refine AC.cond rfl (fun hc => ?_) (fun hc => ?_)
  · (repeat (first | refine AC.seq ?_ | refine AC.block ?_ | refine AC.skip ?_))
    refine AC.region ?_
    refine AOps.step rfl rfl ?_
    refine AOp.of_run (ARun.mvV (.inr rfl) rfl) ?_
    refine AOps.nil ?_
    refine AC.ret (ARes.one rfl (RV.V rfl) ⟨?_, rfl⟩)
    rw [hc]; rfl
  (repeat (first | refine AC.seq ?_ | refine AC.block ?_ | refine AC.skip ?_ | refine AC.exit ?_))
  refine AC.mono (Q := fun ex τ h2 => ex = .normal ∧ h2 = h6 ∧ τ 8 = eB (fitB a f size)) ?_ ?_
  · unfold fitB
    (repeat (first | refine AC.seq ?_ | refine AC.block ?_ | refine AC.skip ?_))
    refine AC.region ?_
    refine AOps.step rfl rfl ?_
    refine AOp.of_run (ARun.fieldAddrL rfl rfl) ?_
    refine AOps.step rfl rfl ?_
    refine AOp.of_run (ARun.loadL rfl rfl rfl) ?_
    refine AOps.step rfl rfl ?_
    refine AOp.of_run (ARun.leq rfl rfl rfl) ?_
    refine AOps.step rfl rfl ?_
    refine AOp.of_run (ARun.mvV (.inl rfl) rfl) ?_
    cases g1 : decide (0 ≤ f.low)
    · refine AOps.passU rfl rfl (by decide) rfl rfl rfl ?_
      refine AOps.passU rfl rfl (by decide) rfl rfl rfl ?_
      refine AOps.passU rfl rfl (by decide) rfl rfl rfl ?_
      refine AOps.passU rfl rfl (by decide) rfl rfl rfl ?_
      refine AOps.passU rfl rfl (by decide) rfl rfl rfl ?_
      refine AOps.step rfl rfl (AOp.of_run (ARun.pickF rfl rfl) ?_)
      refine AOps.step rfl rfl ?_
      refine AOp.of_run (ARun.mvV (.inl rfl) rfl) ?_
      refine AOps.passU rfl rfl (by decide) rfl rfl rfl ?_
      refine AOps.passU rfl rfl (by decide) rfl rfl rfl ?_
      refine AOps.passU rfl rfl (by decide) rfl rfl rfl ?_
      refine AOps.passU rfl rfl (by decide) rfl rfl rfl ?_
      refine AOps.passU rfl rfl (by decide) rfl rfl rfl ?_
      refine AOps.passU rfl rfl (by decide) rfl rfl rfl ?_
      refine AOps.passU rfl rfl (by decide) rfl rfl rfl ?_
      refine AOps.step rfl rfl (AOp.of_run (ARun.pickF rfl rfl) ?_)
      refine AOps.step rfl rfl ?_
      refine AOp.of_run (ARun.mvV (.inr rfl) rfl) ?_
      refine AOps.nil ?_
      exact ⟨rfl, rfl, rfl⟩
    refine AOps.want rfl rfl (by decide) rfl ?_
    refine AOps.step rfl rfl ?_
    refine AOp.of_run (ARun.fieldAddrL rfl rfl) ?_
    refine AOps.want rfl rfl (by decide) rfl ?_
    refine AOps.step rfl rfl ?_
    refine AOp.of_run (ARun.loadL rfl rfl rfl) ?_
    refine AOps.want rfl rfl (by decide) rfl ?_
    refine AOps.step rfl rfl ?_
    refine AOp.of_run (ARun.fieldAddrL rfl rfl) ?_
    refine AOps.want rfl rfl (by decide) rfl ?_
    refine AOps.step rfl rfl ?_
    refine AOp.of_run (ARun.loadL rfl rfl rfl) ?_
    refine AOps.want rfl rfl (by decide) rfl ?_
    refine AOps.step rfl rfl ?_
    refine AOp.of_run (ARun.leq rfl rfl rfl) ?_
    refine AOps.step rfl rfl (AOp.of_run (ARun.pickT rfl rfl) ?_)
    refine AOps.step rfl rfl ?_
    refine AOp.of_run (ARun.mvV (.inl rfl) rfl) ?_
    cases g2 : decide (f.low ≤ f.high)
    · refine AOps.passU rfl rfl (by decide) rfl rfl rfl ?_
      refine AOps.passU rfl rfl (by decide) rfl rfl rfl ?_
      refine AOps.passU rfl rfl (by decide) rfl rfl rfl ?_
      refine AOps.passU rfl rfl (by decide) rfl rfl rfl ?_
      refine AOps.passU rfl rfl (by decide) rfl rfl rfl ?_
      refine AOps.passU rfl rfl (by decide) rfl rfl rfl ?_
      refine AOps.passU rfl rfl (by decide) rfl rfl rfl ?_
      refine AOps.step rfl rfl (AOp.of_run (ARun.pickF rfl rfl) ?_)
      refine AOps.step rfl rfl ?_
      refine AOp.of_run (ARun.mvV (.inr rfl) rfl) ?_
      refine AOps.nil ?_
      exact ⟨rfl, rfl, rfl⟩
    · refine AOps.want rfl rfl (by decide) rfl ?_
      refine AOps.step rfl rfl ?_
      refine AOp.of_run (ARun.fieldAddrL rfl rfl) ?_
      refine AOps.want rfl rfl (by decide) rfl ?_
      refine AOps.step rfl rfl ?_
      refine AOp.of_run (ARun.loadL rfl rfl rfl) ?_
      refine AOps.want rfl rfl (by decide) rfl ?_
      refine AOps.step rfl rfl ?_
      refine AOp.of_run (ARun.fieldAddrL rfl rfl) ?_
      refine AOps.want rfl rfl (by decide) rfl ?_
      refine AOps.step rfl rfl ?_
      refine AOp.of_run (ARun.loadL rfl rfl rfl) ?_
      refine AOps.want rfl rfl (by decide) rfl ?_
      refine AOps.step rfl rfl ?_
      refine AOp.of_run (ARun.mvV (.inl rfl) rfl) ?_
      refine AOps.want rfl rfl (by decide) rfl ?_
      refine AOps.step rfl rfl ?_
      refine AOp.of_run (ARun.sub rfl rfl rfl) ?_
      refine AOps.want rfl rfl (by decide) rfl ?_
      refine AOps.step rfl rfl ?_
      refine AOp.of_run (ARun.leq rfl rfl rfl) ?_
      refine AOps.step rfl rfl (AOp.of_run (ARun.pickT rfl rfl) ?_)
      refine AOps.step rfl rfl ?_
      refine AOp.of_run (ARun.mvV (.inr rfl) rfl) ?_
      refine AOps.nil ?_
      exact ⟨rfl, rfl, rfl⟩
  rintro _ τ h7 ⟨rfl, rfl, hs⟩
  refine AC.ret (ARes.one rfl (RV.tmp' hs) ⟨?_, rfl⟩)
  rw [hc]; rfl
end Go.Proofs.Ytilanageangegaa

/- The layer's rules: a region that draws its order, in which two operations that act may come in either order; structs compared. No statement is proved here. -/
set_option linter.unusedVariables false
set_option linter.unusedSimpArgs false
namespace Go.Ab

section
variable {P : Program} {n : Nat} {ops : Array Oper} {CC C : List Nat} {hs : AHeap} {Q : Env → AHeap → Prop}
def headB (ops : Array Oper) (CC : List Nat) (listed : Array Bool) (i : Nat) : List Nat → Bool
  | [] => false
  | j :: σ => j == i && (!CC.contains j && chkA ops CC σ (listed.setIfInBounds j true))
/-- Behind the order σ each of what may come next is the head of one of the orders br. -/
def chkB (ops : Array Oper) (CC : List Nat) (br : List (List Nat)) : List Nat → Array Bool → Bool
  | [], listed => !(Region.ready .any ops listed).isEmpty && (Region.ready .any ops listed).all fun i => br.any fun r => headB ops CC listed i r
  | i :: σ, listed => (if CC.contains i then (Region.ready .any ops listed).contains i && Region.free .any ops listed i else Region.ready .any ops listed == [i]) && chkB ops CC br σ (listed.setIfInBounds i true)
theorem RunA.fork (hsel : Region.noSelect ops = true) (br : List (List Nat)) : ∀ (σ : List Nat) (f : Nat) (listed : Array Bool) (τ : Env) (h : AHeap), (∀ r ∈ br, σ.length + r.length ≤ f) → chkB ops CC br σ listed = true →
    RunA P n ops CC C hs (fun τ h => ∀ r ∈ br, RunA P n ops CC C hs Q r τ h) σ τ h → AnyA P n ops C hs Q f listed τ h
  | [], f, listed, τ, h, hf, hc, x => by
    simp only [chkB, Bool.and_eq_true, Bool.not_eq_true', List.isEmpty_eq_false_iff, List.all_eq_true, List.any_eq_true] at hc
    obtain ⟨hne, hall⟩ := hc
    obtain ⟨i0, hi0⟩ := List.exists_mem_of_ne_nil _ hne
    obtain ⟨r0, hr0, hh0⟩ := hall i0 hi0
    cases f with
    | zero =>
      cases r0 with
      | nil => cases hh0
      | cons j σ => have := hf _ hr0; simp at this
    | succ f =>
      refine AnyA.all _ rfl hne fun i hi o ho => ?_
      obtain ⟨r, hr, hh⟩ := hall i hi
      cases r with
      | nil => cases hh
      | cons j σ =>
        simp only [headB, Bool.and_eq_true, beq_iff_eq, Bool.not_eq_true'] at hh
        obtain ⟨rfl, hCC, hchk⟩ := hh
        have hlen : σ.length ≤ f := by have := hf _ hr; simp at this; omega
        obtain ⟨o', ho', ⟨hC, _⟩ | ⟨_, y⟩⟩ := x _ hr
        · rw [hCC] at hC; cases hC
        · rw [ho] at ho'
          injection ho' with ho'
          subst ho'
          exact opA.mono (fun τ' h' q => ⟨q.1, RunA.any hsel σ f _ _ _ hlen hchk q.2⟩) y
  | i :: σ, 0, listed, τ, h, hf, hc, x => by
    -- there is no order of nothing: then nothing may come
    exfalso
    have : ∀ (σ : List Nat) (listed : Array Bool), chkB ops CC br σ listed = true → ∃ r, r ∈ br := by
      intro σ
      induction σ with
      | nil =>
        intro listed hc
        simp only [chkB, Bool.and_eq_true, Bool.not_eq_true', List.isEmpty_eq_false_iff, List.all_eq_true, List.any_eq_true] at hc
        obtain ⟨i0, hi0⟩ := List.exists_mem_of_ne_nil _ hc.1
        obtain ⟨r0, hr0, _⟩ := hc.2 i0 hi0
        exact ⟨r0, hr0⟩
      | cons i σ ih =>
        intro listed hc
        simp only [chkB, Bool.and_eq_true] at hc
        exact ih _ hc.2
    obtain ⟨r, hr⟩ := this _ _ hc
    have := hf r hr
    simp at this
  | i :: σ, f + 1, listed, τ, h, hf, hc, x => by
    simp only [chkB, Bool.and_eq_true] at hc
    obtain ⟨hc1, hc2⟩ := hc
    have hf' : ∀ r ∈ br, σ.length + r.length ≤ f := fun r hr => by have := hf r hr; simp at this; omega
    obtain ⟨o, ho, ⟨hC, y, G, hcalm, hh, x⟩ | ⟨hC, x⟩⟩ := x
    · rw [if_pos hC] at hc1
      simp only [Bool.and_eq_true] at hc1
      exact AnyA.first ho (hh.elim (fun ⟨a, _, c⟩ => .inl ⟨by simpa using a, c⟩) fun ⟨_, c⟩ => .inr c) (Region.noSelect_spec hsel) f listed τ h (fun j oj hj hne hun hno => Region.free_spec ho hc1.2 j oj hj hne hun hno) (by simpa using hc1.1) hcalm (fun a => hh.elim (fun ⟨_, b, _⟩ => b) fun ⟨b, _⟩ => absurd (b.symm.trans (List.contains_iff_mem.2 a)) (by simp)) (RunA.fork hsel br σ f _ _ _ hf' hc2 x)
    · rw [if_neg (by rw [hC]; exact Bool.false_ne_true)] at hc1
      have hr : Region.ready .any ops listed = [i] := by simpa using hc1
      exact AnyA.only i hr ho (opA.mono (fun τ' h' q => ⟨q.1, RunA.fork hsel br σ f _ _ _ hf' hc2 q.2⟩) x)
theorem AC.forkedH {id : Nat} {Q : Exit → Env → AHeap → Prop} {τ : Env} {h : AHeap} (CC C σ : List Nat) (br : List (List Nat)) (hm : P.follows .mixedOrders = true)
    (hchk : (Region.noSelect ops && ((br.all fun r => decide (σ.length + r.length ≤ ops.size)) && chkB ops CC br σ (Array.replicate ops.size false)) : Bool) = true)
    (x : RunA P n ops CC C h (fun τ' h' => ∀ r ∈ br, RunA P n ops CC C h (Q .normal) r τ' h') σ τ h) : AC P n (.region id ops true) Q τ h := by
  simp only [Bool.and_eq_true, List.all_eq_true, decide_eq_true_eq] at hchk
  exact AC.draw hm C h (RunA.fork hchk.1 br σ _ _ _ _ hchk.2.1 hchk.2.2 x)
theorem RunA.both {r1 r2 : List Nat} {τ : Env} {h : AHeap} (x : RunA P n ops CC C hs Q r1 τ h) (y : RunA P n ops CC C hs Q r2 τ h) : RunA P n ops CC C hs (fun τ h => ∀ r ∈ [r1, r2], RunA P n ops CC C hs Q r τ h) [] τ h := fun r hr => by
  rcases List.mem_cons.1 hr with e | e
  · subst e; exact x
  · have : r = r2 := by simpa using e
    subst this; exact y
end

/-! ### Structs of plain fields, compared -/
def fitB (P : Program) (xs ys : Array Value) (f : Field) : Bool := f.name != "_" && (tagg P f.type == some false && match P.underlying f.type, xs[f.offset]?, ys[f.offset]? with
  | some (.int _), some (.int k _), some (.int k' _) => k == k'
  | some .bool, some (.bool _), some (.bool _) => true
  | _, _, _ => false)
def sameV (xs ys : Array Value) (i : Nat) : Bool := match xs[i]?, ys[i]? with
  | some (.int _ a), some (.int _ b) => a == b
  | some (.bool a), some (.bool b) => a == b
  | _, _ => false
theorem run_eqFields {P : Program} (w : World) (d : Nat) (xs ys : Array Value) : ∀ fs : List Field, (fs.all fun f => fitB P xs ys f) = true → (Op.eqFields (d + 1) xs ys fs).run P w = .ok (fs.all fun f => sameV xs ys f.offset) w
  | [], _ => rfl
  | f :: fs, hf => by
    rw [List.all_cons, Bool.and_eq_true] at hf
    have ih := run_eqFields w d xs ys fs hf.2
    obtain ⟨hn, ha, hm⟩ : f.name ≠ "_" ∧ tagg P f.type = some false ∧ (match P.underlying f.type, xs[f.offset]?, ys[f.offset]? with
      | some (.int _), some (.int k _), some (.int k' _) => k == k'
      | some .bool, some (.bool _), some (.bool _) => true
      | _, _, _ => false) = true := by
      have := hf.1
      simp only [fitB, Bool.and_eq_true, bne_iff_ne, beq_iff_eq] at this
      exact ⟨this.1, this.2.1, this.2.2⟩
    have hpart : ∀ (zs : Array Value) v, zs[f.offset]? = some v → (part f.type zs f.offset).run P w = .ok v w := fun zs v e => by
      unfold part
      simp only [Sem.run_bind, run_isAgg w ha, Result.andThen_ok, Bool.false_eq_true, if_false, e, Sem.run_pure]
    rw [List.all_cons]
    unfold Op.eqFields
    rw [if_pos hn]
    split at hm
    · rename_i k0 k a k' b hu e1 e2
      have hkk : k = k' := by simpa using hm
      subst hkk
      have hs : sameV xs ys f.offset = (a == b) := by unfold sameV; rw [e1, e2]
      simp only [Sem.run_bind, hpart _ _ e1, hpart _ _ e2, Result.andThen_ok, run_equalIn_int w d f.type k k0 a b hu, hs]
      cases a == b
      · simp
      · simpa using ih
    · rename_i a b hu e1 e2
      have hs : sameV xs ys f.offset = (a == b) := by unfold sameV; rw [e1, e2]
      simp only [Sem.run_bind, hpart _ _ e1, hpart _ _ e2, Result.andThen_ok, run_equalIn_bool' w d f.type a b hu, hs]
      cases a == b
      · simp
      · simpa using ih
    · cases hm
theorem ARun.neqV {P : Program} {n : Nat} {o : Oper} {τ : Env} {h : AHeap} {t t2 : TypeId} {x y : Operand} {kk : IntKind} {a b : Int} {v : Bool} (ho : o.op = .binOp .neq t x y t2) (hx : aev τ x = .v (.int kk a)) (hy : aev τ y = .v (.int kk b)) (hv : decide (a = b) = v) : ARun P n o τ h (.v (.bool (!v))) := hv ▸ ARun.neq ho hx hy
theorem ARun.geqV {P : Program} {n : Nat} {o : Oper} {τ : Env} {h : AHeap} {t t2 : TypeId} {x y : Operand} {kk : IntKind} {a b : Int} {v : Bool} (ho : o.op = .binOp .geq t x y t2) (hx : aev τ x = .v (.int kk a)) (hy : aev τ y = .v (.int kk b)) (hv : decide (b ≤ a) = v) : ARun P n o τ h (.v (.bool v)) := hv ▸ ARun.geq ho hx hy
theorem ARun.lssV {P : Program} {n : Nat} {o : Oper} {τ : Env} {h : AHeap} {t t2 : TypeId} {x y : Operand} {kk : IntKind} {a b : Int} {v : Bool} (ho : o.op = .binOp .lss t x y t2) (hx : aev τ x = .v (.int kk a)) (hy : aev τ y = .v (.int kk b)) (hv : decide (a < b) = v) : ARun P n o τ h (.v (.bool v)) := hv ▸ ARun.lss ho hx hy
theorem VR.agg_v {w : World} {h : AHeap} {xs : List Value} {y : Value} (r : VR w h (.agg (xs.map .v)) y) : y = .agg xs.toArray := by
  generalize hc : xs.map AVal.v = cs at r
  cases r with
  | agg cs vs hl hv =>
    subst hc
    congr 1
    apply Array.ext
    · simpa using hl
    · intro i h1 h2
      have := hv i (by simpa using h2) h1
      simp only [List.getElem_map] at this
      simpa using this.inv_v
theorem ARun.neqAgg {P : Program} {n : Nat} {o : Oper} {τ : Env} {h : AHeap} {t t2 : TypeId} {x y : Operand} {xs ys : List Value} {b : Bool} (ho : o.op = .binOp .neq t x y t2) (hx : aev τ x = .agg (xs.map .v)) (hy : aev τ y = .agg (ys.map .v))
    (hg : P.eqGuardType P.depth t = false) (ht : P.underlying t = some (.struct (P.fieldsOf t))) (hp : P.stoodInHeld t = false) (hf : ((P.fieldsOf t).toList.all fun f => fitB P xs.toArray ys.toArray f) = true)
    (hb : ((P.fieldsOf t).toList.all fun f => sameV xs.toArray ys.toArray f.offset) = b) : ARun P n o τ h (.v (.bool (!b))) := by
  refine fun a w r => ⟨.bool (!b), ?_, .v _⟩
  have e1 := r.eval x
  rw [hx] at e1
  have e2 := r.eval y
  rw [hy] at e2
  unfold execOp
  simp only [ho, e1.agg_v, e2.agg_v, Sem.run_bind, run_eqGuard_agg w .neq t x y _ _ hg, Result.andThen_ok, run_neq_struct, show (10000 : Nat) = 9998 + 1 + 1 from rfl, run_equalIn_agg w (9998 + 1) t _ _ ht hp, run_eqFields w 9998 _ _ _ hf, hb, Sem.run_pure]
end Go.Ab
namespace Go.Ab
/-- A slice of one's own, whose head lies in a block of one's own, is read and never written any more. -/
theorem Own.freezeIn {m : Nat} {τ : Env} {h0 H : AHeap} {e : TypeId} {sz n : Nat} {cs : List AVal} {x : AVal} (q : Own h0 e sz n cs x H) {g : Nat} {C : List AVal} {t : TypeId} {s : Nat} (hg : h0 g = some (.cells C t s)) {i : Nat} (hi : C[i]? = some x) :
    Le m τ H τ (hset h0 g (some (.cells (C.set i (.ls n cs)) t s))) := by
  have hn : ∀ c, H c = none → hset h0 g (some (.cells (C.set i (.ls n cs)) t s)) c = none := fun c hc => by
    have h1 := q.base hc
    have h2 : c ≠ g := by rintro rfl; rw [hg] at h1; cases h1
    rw [hset_ne _ _ h2]; exact h1
  refine Le.of_ok hn fun w hok c k hc => ?_
  have ev : Ev H w (hset h0 g (some (.cells (C.set i (.ls n cs)) t s))) w := ⟨Nat.le_refl _, fun c _ hc => ⟨hn c hc, rfl⟩, rfl, rfl, rfl⟩
  by_cases hcg : c = g
  · subst hcg
    rw [hset_same] at hc
    injection hc with hc
    subst hc
    obtain ⟨A, hw, hsz, hle, hA⟩ := hok c _ (q.get hg)
    refine ⟨A, hw, hsz, by simpa using hle, fun j h1 h2 => ?_⟩
    have hj : j < C.length := by simpa using h1
    have hv := hA j hj h2
    rw [List.getElem_set]
    split
    · rename_i e
      subst e
      have hx : C[i] = x := by rw [List.getElem?_eq_getElem hj] at hi; exact Option.some.inj hi
      rw [hx] at hv
      have h3 := q.freeze.2 w _ hok hv
      have ev0 : Ev h0 w (hset h0 c (some (.cells (C.set i (.ls n cs)) t s))) w := ⟨Nat.le_refl _, fun d _ hd => ⟨by
        have : d ≠ c := by rintro rfl; rw [hg] at hd; cases hd
        rw [hset_ne _ _ this]; exact hd, rfl⟩, rfl, rfl, rfl⟩
      exact h3.mono ev0
    · exact hv.mono ev
  · rw [hset_ne _ _ hcg] at hc
    exact (hok c k (q.get hc)).mono ev rfl
end Go.Ab
