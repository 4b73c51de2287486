/- Walks and laws for LawFree (5): WFree, WRefI5, WSame, WPlaces, ChkR. No statement of the seat is proved here. -/
import Derived.Test.YtilanageangegaaF4

/- Walk of checks.Free. MADE BY wip/gen_free.py. -/
set_option linter.unusedVariables false
set_option linter.unusedSimpArgs false
namespace Go.Proofs.Ytilanageangegaa
open Go.Ab

def eFacts (l : List DFact) : AVal := .ls l.length (l.flatMap eFact)
/-- Is a node's guard made needless? -/
def guardB (l : DLay) (facts : List DFact) (x : DNode) : Bool :=
  (decide (x.op = 5) || decide (x.op = 6)) && (x.guard && (decide (0 ≤ x.at_) && (match facts[x.at_.toNat]? with | some g => provB l g x.size (decide (x.op = 6)) | none => false)))
def freeN (l : DLay) (facts : List DFact) (x : DNode) : DNode := if guardB l facts x then { x with guard := false } else x
def freeP (l : DLay) (facts : List DFact) (p : DPart) : DPart := { p with nodes := p.nodes.map (freeN l facts) }
def freeF (l : DLay) (facts : List DFact) (f : DIr) : DIr := { f with parts := f.parts.map (freeP l facts) }
def goneN (l : DLay) (facts : List DFact) (x : List DNode) : Nat := (x.filter (guardB l facts)).length
def goneP (l : DLay) (facts : List DFact) (ps : List DPart) : Nat := (ps.map fun p => goneN l facts p.nodes).sum
theorem goneN_le (l : DLay) (facts : List DFact) (x : List DNode) : goneN l facts x ≤ x.length := List.length_filter_le _ _
theorem goneP_le (l : DLay) (facts : List DFact) : ∀ (ps : List DPart), (∀ p ∈ ps, p.nodes.length ≤ 2000000) → goneP l facts ps ≤ ps.length * 2000000
  | [], _ => by simp [goneP]
  | p :: ps, h => by
    have h1 := goneP_le l facts ps fun q hq => h q (by simp [hq])
    have h2 := goneN_le l facts p.nodes
    have h3 := h p (by simp)
    unfold goneP at h1 ⊢
    simp only [List.map_cons, List.sum_cons, List.length_cons, Nat.succ_mul]
    omega
theorem goneP_take (l : DLay) (facts : List DFact) {ps : List DPart} {i : Nat} (h : i < ps.length) : goneP l facts (ps.take (i + 1)) = goneP l facts (ps.take i) + goneN l facts ps[i].nodes := by
  unfold goneP
  rw [List.take_succ_eq_append_getElem h, List.map_append, List.sum_append]; simp
theorem goneN_take (l : DLay) (facts : List DFact) {ps : List DNode} {i : Nat} (h : i < ps.length) : goneN l facts (ps.take (i + 1)) = goneN l facts (ps.take i) + (if guardB l facts ps[i] then 1 else 0) := by
  unfold goneN
  rw [List.take_succ_eq_append_getElem h, List.filter_append, List.length_append]
  by_cases c : guardB l facts ps[i] <;> simp [c]
/-- The first i done, the rest not yet. -/
def mixL {α : Type} (g : α → α) (l : List α) (i : Nat) : List α := (l.take i).map g ++ l.drop i
theorem mixL_len {α : Type} (g : α → α) (l : List α) (i : Nat) : (mixL g l i).length = l.length := by simp [mixL]; omega
theorem mixL_get {α : Type} (g : α → α) {l : List α} {i : Nat} (h : i < l.length) : ∃ h2 : i < (mixL g l i).length, (mixL g l i)[i] = l[i] := by
  refine ⟨by rw [mixL_len]; exact h, ?_⟩
  unfold mixL
  rw [List.getElem_append_right (by simp; omega)]
  simp [Nat.min_eq_left (Nat.le_of_lt h)]
theorem mixL_set {α : Type} (g : α → α) {l : List α} {i : Nat} (h : i < l.length) : (mixL g l i).set i (g l[i]) = mixL g l (i + 1) := by
  unfold mixL
  rw [List.set_append_right _ _ (by simp; omega)]
  have h1 : ((l.take i).map g).length = i := by simp; omega
  rw [h1, Nat.sub_self, List.take_succ_eq_append_getElem h, List.map_append, List.append_assoc]
  congr 1
  rw [List.drop_eq_getElem_cons h]; rfl
theorem mixL_same {α : Type} (g : α → α) {l : List α} {i : Nat} (h : i < l.length) (e : g l[i] = l[i]) : mixL g l i = mixL g l (i + 1) := by
  rw [← mixL_set g h, e]
  obtain ⟨h2, e2⟩ := mixL_get g h
  rw [← e2, List.set_getElem_self]
theorem mixL_all {α : Type} (g : α → α) (l : List α) : mixL g l l.length = l.map g := by simp [mixL]
theorem mixL_zero {α : Type} (g : α → α) (l : List α) : mixL g l 0 = l := by simp [mixL]
/-- What Free answers. -/
def FreeR (l : DLay) (f : DIr) (facts : List DFact) (r : AVal) : Prop :=
  (chkP f ∧ r = .tup [.agg (eIr (freeF l facts f)), eI (goneP l facts f.parts), eI 0]) ∨ (¬ chkP f ∧ r = .tup [.agg [nilS, eI 0], eI 0, eI 160])

set_option maxHeartbeats 4000000 in
set_option maxRecDepth 10000 in
theorem Free_spec (l : DLay) (f : DIr) (facts : List DFact) (h : AHeap) (z : Sz f) (hm : l.maps.length ≤ 1000000) (hfa : facts.length ≤ 2000000) : Sp Try.prog 12 [.agg (eLay l), .agg (eIr f), eFacts facts] h (fun r h' => FreeR l f facts r ∧ h' = h) := by
  have hz := z.parts
  refine Sp.of Try.func12 rfl rfl (by show 3 ≤ 112; decide) ?_
  (repeat (first | refine AC.seq ?_ | refine AC.block ?_ | refine AC.skip ?_))
  refine AC.region ?_
  refine AOps.step rfl rfl ?_
  refine AOp.boxL rfl rfl ?_
  refine AOps.step rfl rfl ?_
  refine AOp.boxL rfl rfl ?_
  refine AOps.step rfl rfl (AOp.alloc rfl (fun b6 hb6 => ?_))
  refine AOps.step rfl rfl ?_
  refine AOp.of_run (ARun.mvV (.inr rfl) rfl) ?_
  refine AOps.step rfl rfl ?_
  refine AOp.of_run (ARun.mvV (.inr rfl) rfl) ?_
  refine AOps.nil ?_
  (repeat (first | refine AC.seq ?_ | refine AC.block ?_ | refine AC.skip ?_))
  refine AC.region ?_
  refine AOps.step rfl rfl ?_
  refine AOp.of_run (ARun.loadNL rfl rfl rfl) ?_
  refine AOps.step rfl rfl (AOp.call_ rfl rfl ((Check_spec f _ z).mono ?_))
  rintro _ _ ⟨rfl, rfl⟩
  rcases Classical.em (chkP f) with hchk | hchk
  rotate_left
  · rw [chkE_no hchk]
    refine AOps.step rfl rfl ?_
    refine AOp.of_run (ARun.mvV (.inr rfl) rfl) ?_
    refine AOps.nil ?_
    (repeat (first | refine AC.seq ?_ | refine AC.block ?_ | refine AC.skip ?_))
    refine AC.region ?_
    refine AOps.step rfl rfl ?_
    refine AOp.of_run (ARun.mvV (.inl rfl) rfl) ?_
    refine AOps.step rfl rfl ?_
    refine AOp.of_run (ARun.neq rfl rfl rfl) ?_
    refine AOps.nil ?_
    (repeat (first | refine AC.seq ?_ | refine AC.block ?_ | refine AC.skip ?_)); refine AC.cond rfl (fun hc => ?_) (fun hc => ?_)
    · (repeat (first | refine AC.seq ?_ | refine AC.block ?_ | refine AC.skip ?_))
      refine AC.region ?_
      refine AOps.step rfl rfl ?_
      refine AOp.of_run (ARun.build rfl) ?_
      refine AOps.step rfl rfl ?_
      refine AOp.of_run (ARun.mvV (.inl rfl) rfl) ?_
      refine AOps.step rfl rfl (AOp.store rfl rfl (hset_same _ _ _) rfl ?_)
      refine AOps.step rfl rfl ?_
      refine AOp.of_run (ARun.mvV (.inr rfl) rfl) ?_
      refine AOps.step rfl rfl ?_
      refine AOp.of_run (ARun.mvV (.inr rfl) rfl) ?_
      refine AOps.nil ?_
      refine AC.ret (ARes.le (Le.freezeNew (d := 6) hb6 rfl) (ARes.three rfl (RV.cellNL rfl rfl) RV.tmp RV.tmp ⟨.inr ⟨hchk, rfl⟩, rfl⟩))
    · cases hc
  rw [chkE_yes hchk]
  refine AOps.step rfl rfl ?_
  refine AOp.of_run (ARun.mvV (.inr rfl) rfl) ?_
  refine AOps.nil ?_
  (repeat (first | refine AC.seq ?_ | refine AC.block ?_ | refine AC.skip ?_))
  refine AC.region ?_
  refine AOps.step rfl rfl ?_
  refine AOp.of_run (ARun.mvV (.inl rfl) rfl) ?_
  refine AOps.step rfl rfl ?_
  refine AOp.of_run (ARun.neq rfl rfl rfl) ?_
  refine AOps.nil ?_
  (repeat (first | refine AC.seq ?_ | refine AC.block ?_ | refine AC.skip ?_)); refine AC.cond rfl (fun hc => ?_) (fun hc => ?_)
  · cases hc
  (repeat (first | refine AC.seq ?_ | refine AC.block ?_ | refine AC.skip ?_ | refine AC.exit ?_))
  (repeat (first | refine AC.seq ?_ | refine AC.block ?_ | refine AC.skip ?_))
  refine AC.region ?_
  refine AOps.step rfl rfl ?_
  refine AOp.of_run (ARun.mvV (.inr rfl) rfl) ?_
  refine AOps.nil ?_
  have hn0 : 0 < f.parts.length := hchk.1.1.1
  have hIdle : [AVal.v (.slice none 0 0), AVal.v (.int .i64 0)].length = 2 := rfl
  change thenA _ _ Exit.normal _ (hset h b6 (some (.cells [nilS, eI 0] 29 2)))
  have hB6 : hset h b6 (some (.cells [nilS, eI 0] 29 2)) b6 = some (.cells [nilS, eI 0] 29 2) := hset_same _ _ _
  have hS6 : HSub h (hset h b6 (some (.cells [nilS, eI 0] 29 2))) := HSub.add _ hb6
  have hbase6 : ∀ k, hset (hset h b6 (some (.cells [nilS, eI 0] 29 2))) b6 k = hset h b6 k := fun k => hset_hset _ _ _ _
  generalize h6e : hset h b6 (some (.cells [nilS, eI 0] 29 2)) = h6 at *
  (repeat (first | refine AC.seq ?_ | refine AC.block ?_ | refine AC.skip ?_ | refine AC.exit ?_))
  have keyC : ∀ h1, Sp Try.prog 37 [eParts f.parts] h1 (fun r h' => Own h1 60 10 f.parts.length (f.parts.flatMap ePart) r h') := fun h1 => CloneP_spec f.parts h1 (by omega)
  refine AC.mono (Q := fun ex τ h2 => ex = .normal ∧ ∃ (bg : Nat) (ax : Option Addr) (cx : Nat), h6 bg = none ∧ Own (hset h6 bg (some (.cells [.v (.slice ax f.parts.length cx), eI f.values] 29 2))) 60 10 f.parts.length (f.parts.flatMap ePart) (.v (.slice ax f.parts.length cx)) h2 ∧
    Slots τ [(2, eFacts facts), (3, .lp (eLay l) 0), (6, .v (ptr b6)), (10, eI 0), (11, .v (ptr bg))]) ?_ ?_
  · (repeat (first | refine AC.seq ?_ | refine AC.block ?_ | refine AC.skip ?_))
    refine AC.forkedH [0, 1, 2, 3, 5] [1, 3] [0, 1, 2, 3] [[4, 5, 6, 7], [6, 4, 5, 7]] mixed (by kernel_rfl) ?_
    refine RunA.pure rfl rfl rfl rfl rfl (fun _ => ARun.fieldAddrL rfl rfl) ?_
    refine RunA.calm rfl rfl rfl rfl rfl (HSub.refl _) (fun _ hsub => ARun.loadL rfl rfl rfl) ?_
    refine RunA.pure rfl rfl rfl rfl rfl (fun _ => ARun.fieldAddrL rfl rfl) ?_
    refine RunA.calm rfl rfl rfl rfl rfl (HSub.refl _) (fun _ hsub => ARun.loadL rfl rfl rfl) ?_
    refine RunA.both ?_ ?_
    · refine RunA.op rfl rfl rfl rfl ?_
      refine AOp.call_ rfl rfl ((keyC _).mono ?_)
      rintro x h1 ho1; obtain ⟨ax, cx, rfl, hle⟩ := ho1.isSlice; refine ⟨fun _ _ => ho1.freeze.1, ?_⟩
      refine RunA.pure rfl rfl rfl rfl rfl (fun _ => ARun.build rfl) ?_
      refine RunA.op rfl rfl rfl rfl ?_
      refine AOp.alloc rfl (fun bg hbg => ?_)
      refine ⟨fun _ q => q.trans (HSub.add _ (by assumption)), ?_⟩
      refine RunA.op rfl rfl rfl rfl ?_
      refine AOp.store rfl rfl (hset_same _ _ _) rfl ?_
      refine ⟨lateAbs (by decide +kernel), ?_⟩
      refine RunA.nil ?_
      refine ⟨rfl, bg, ax, cx, ho1.base hbg, ?_, rfl, rfl, rfl, rfl, rfl, trivial⟩
      rw [hset_hset]
      exact ho1.new _ hbg
    · refine RunA.op rfl rfl rfl rfl ?_
      refine AOp.alloc rfl (fun bg hbg => ?_)
      refine ⟨fun _ q => q.trans (HSub.add _ (by assumption)), ?_⟩
      refine RunA.op rfl rfl rfl rfl ?_
      refine AOp.call_ rfl rfl ((keyC _).mono ?_)
      rintro x h1 ho1; obtain ⟨ax, cx, rfl, hle⟩ := ho1.isSlice; refine ⟨fun _ q => q.trans ho1.freeze.1, ?_⟩
      refine RunA.pure rfl rfl rfl rfl rfl (fun _ => ARun.build rfl) ?_
      refine RunA.op rfl rfl rfl rfl ?_
      refine AOp.store rfl rfl (ho1.get (hset_same _ _ _)) rfl ?_
      refine ⟨lateAbs (by decide +kernel), ?_⟩
      refine RunA.nil ?_
      refine ⟨rfl, bg, ax, cx, hbg, ?_, rfl, rfl, rfl, rfl, rfl, trivial⟩
      have := ho1.upd (.cells [.v (.slice ax f.parts.length cx), eI f.values] 29 2) (hset_same _ _ _)
      rw [hset_hset] at this
      exact this
  rintro _ τ h2 ⟨rfl, bg, ax, cx, hbg, hoP, hs⟩
  obtain ⟨t1, rfl⟩ := hs.open_
  obtain ⟨bp, c, hx, hbp, hnc, hcm, rfl⟩ := hoP.blk hn0
  injection hx with hx
  injection hx with hx1 _ hx3
  subst hx1; subst hx3
  have hbpg : bp ≠ bg := fresh_ne hbp
  have hb6g : b6 ≠ bg := by rintro rfl; rw [hB6] at hbg; cases hbg
  have hb6p : b6 ≠ bp := by rintro rfl; rw [hset_ne _ _ hb6g, hB6] at hbp; cases hbp
  obtain ⟨HP, hHP⟩ : ∃ HP : List DPart → AHeap, ∀ L, HP L = hset (hset h6 bg (some (.cells [.v (.slice (some ⟨bp, 0, none⟩) f.parts.length cx), eI f.values] 29 2))) bp (some (.cells (L.flatMap ePart) 60 (cx * 10))) := ⟨_, fun _ => rfl⟩
  have gG : ∀ L, HP L bg = some (.cells [.v (.slice (some ⟨bp, 0, none⟩) f.parts.length cx), eI f.values] 29 2) := fun L => by rw [hHP]; exact hset_skip hbpg.symm (hset_same _ _ _)
  have gP : ∀ L, HP L bp = some (.cells (L.flatMap ePart) 60 (cx * 10)) := fun L => by rw [hHP]; exact hset_same _ _ _
  have gput : ∀ L L', hset (HP L) bp (some (.cells (L'.flatMap ePart) 60 (cx * 10))) = HP L' := fun L L' => by rw [hHP, hHP, hset_hset]
  rw [← hHP]
  (repeat (first | refine AC.seq ?_ | refine AC.block ?_ | refine AC.skip ?_))
  refine AC.region ?_
  refine AOps.step rfl rfl ?_
  refine AOp.of_run (ARun.fieldAddr rfl rfl) ?_
  refine AOps.step rfl rfl (AOp.of_run (ARun.load rfl rfl (gG _) rfl) ?_)
  refine AOps.step rfl rfl ?_
  refine AOp.of_run (ARun.lenV rfl rfl) ?_
  refine AOps.step rfl rfl ?_
  refine AOp.of_run (ARun.mvV (.inl rfl) rfl) ?_
  refine AOps.nil ?_
  (repeat (first | refine AC.seq ?_ | refine AC.block ?_ | refine AC.skip ?_ | refine AC.exit ?_))
  refine AC.loop (fun m τ h' => ∃ i : Nat, i ≤ f.parts.length ∧ m = f.parts.length - i ∧ Slots τ [(2, eFacts facts), (3, .lp (eLay l) 0), (6, .v (ptr b6)), (10, eI (goneP l facts (f.parts.take i))), (11, .v (ptr bg)), (29, .v (.slice (some ⟨bp, 0, none⟩) f.parts.length cx)), (30, eI f.parts.length), (31, eI i)] ∧ h' = HP (mixL (freeP l facts) f.parts i)) f.parts.length ?_ ?_
  · exact ⟨0, Nat.zero_le _, rfl, ⟨rfl, rfl, rfl, rfl, rfl, rfl, rfl, rfl, trivial⟩, by rw [mixL_zero]⟩
  rintro m τ h3 ⟨i, hi, rfl, hs, rfl⟩
  obtain ⟨t2, rfl⟩ := hs.open_
  (repeat (first | refine AC.seq ?_ | refine AC.block ?_ | refine AC.skip ?_))
  refine AC.region ?_
  refine AOps.step rfl rfl ?_
  refine AOp.of_run (ARun.lss rfl rfl rfl) ?_
  refine AOps.nil ?_
  (repeat (first | refine AC.seq ?_ | refine AC.block ?_ | refine AC.skip ?_)); refine AC.cond rfl (fun hc => ?_) (fun hc => ?_)
  · have hlt : i < f.parts.length := by simpa using hc
    obtain ⟨hl2, he2⟩ := mixL_get (freeP l facts) hlt
    have hLl := mixL_len (freeP l facts) f.parts i
    have hfl := flatMap_length ePart 10 ePart_len (mixL (freeP l facts) f.parts i)
    have hrd : rdc ((mixL (freeP l facts) f.parts i).flatMap ePart) (0 + (i : Int).toNat * 10) 10 = some (ePart f.parts[i]) := by
      rw [Nat.zero_add, Int.toNat_natCast, rdc_flatMap ePart_len hl2, he2]
    have hgone := goneP_take l facts hlt
    have hgle := goneP_le l facts (f.parts.take i) fun p hp => (z.part _ (List.mem_of_mem_take hp)).nodes
    rw [List.length_take] at hgle
    have hset := mixL_set (freeP l facts) hlt
    have zp := z.part _ (List.getElem_mem hlt)
    generalize f.parts[i] = p at *
    have hp2 := zp.nodes
    generalize hML : mixL (freeP l facts) f.parts i = ML at *
    generalize hGP : goneP l facts (f.parts.take i) = G0 at *
    (repeat (first | refine AC.seq ?_ | refine AC.block ?_ | refine AC.skip ?_ | refine AC.exit ?_))
    (repeat (first | refine AC.seq ?_ | refine AC.block ?_ | refine AC.skip ?_))
    refine AC.region ?_
    refine AOps.step rfl rfl ?_
    refine AOp.of_run (ARun.mvV (.inl rfl) rfl) ?_
    refine AOps.step rfl rfl ?_
    refine AOp.of_run (ARun.indexAddr rfl rfl rfl (by omega) (by omega)) ?_
    refine AOps.step rfl rfl (AOp.of_run (ARun.loadN rfl rfl (gP _) hrd) ?_)
    refine AOps.step rfl rfl (AOp.alloc rfl (fun b13 hb13 => ?_))
    refine AOps.step rfl rfl ?_
    refine AOp.of_run (ARun.mvV (.inr rfl) rfl) ?_
    refine AOps.step rfl rfl (AOp.store rfl rfl (hset_same _ _ _) rfl ?_)
    refine AOps.nil ?_
    rw [hset_hset]
    (repeat (first | refine AC.seq ?_ | refine AC.block ?_ | refine AC.skip ?_))
    refine AC.region ?_
    refine AOps.step rfl rfl ?_
    refine AOp.of_run (ARun.fieldAddr rfl rfl) ?_
    refine AOps.step rfl rfl (AOp.of_run (ARun.load rfl rfl (hset_same _ _ _) rfl) ?_)
    refine AOps.step rfl rfl (AOp.call_ rfl rfl ((CloneN_spec p.nodes _ (by omega)).mono ?_))
    rintro xn h4 ho4
    obtain ⟨an, cn, rfl, hcn⟩ := ho4.isSlice
    refine AOps.step rfl rfl ?_
    refine AOp.of_run (ARun.fieldAddr rfl rfl) ?_
    refine AOps.step rfl rfl (AOp.store1 rfl rfl (ho4.get (hset_same _ _ _)) rfl (by show 2 < 10; decide) ?_)
    refine AOps.nil ?_
    have hoN := ho4.upd (.cells ((ePart p).set 2 (.v (.slice an p.nodes.length cn))) 60 10) (hset_same _ _ _)
    rw [hset_hset] at hoN
    change thenA _ _ Exit.normal _ (Ab.hset h4 b13 (some (.cells ((ePart p).set 2 (.v (.slice an p.nodes.length cn))) 60 10)))
    have hbp13 : b13 ≠ bp := by rintro rfl; rw [gP] at hb13; cases hb13
    have hbg13 : b13 ≠ bg := by rintro rfl; rw [gG] at hb13; cases hb13
    obtain ⟨HQ, hHQ⟩ : ∃ HQ : AHeap, HQ = Ab.hset (HP ML) b13 (some (.cells ((ePart p).set 2 (.v (.slice an p.nodes.length cn))) 60 10)) := ⟨_, rfl⟩
    rw [← hHQ] at hoN
    have gQ : HQ b13 = some (.cells ((ePart p).set 2 (.v (.slice an p.nodes.length cn))) 60 10) := by rw [hHQ]; exact hset_same _ _ _
    generalize Ab.hset h4 b13 (some (.cells ((ePart p).set 2 (.v (.slice an p.nodes.length cn))) 60 10)) = H5 at *
    (repeat (first | refine AC.seq ?_ | refine AC.block ?_ | refine AC.skip ?_))
    refine AC.region ?_
    refine AOps.step rfl rfl ?_
    refine AOp.of_run (ARun.fieldAddr rfl rfl) ?_
    refine AOps.step rfl rfl (AOp.of_run (ARun.load rfl rfl (hoN.get gQ) rfl) ?_)
    refine AOps.step rfl rfl ?_
    refine AOp.of_run (ARun.lenV rfl rfl) ?_
    refine AOps.step rfl rfl ?_
    refine AOp.of_run (ARun.mvV (.inl rfl) rfl) ?_
    refine AOps.nil ?_
    (repeat (first | refine AC.seq ?_ | refine AC.block ?_ | refine AC.skip ?_ | refine AC.exit ?_))
    refine AC.loop (fun m τ h' => ∃ k : Nat, k ≤ p.nodes.length ∧ m = p.nodes.length - k ∧ Slots τ [(2, eFacts facts), (3, .lp (eLay l) 0), (6, .v (ptr b6)), (10, eI ((G0 + goneN l facts (p.nodes.take k) : Nat))), (11, .v (ptr bg)), (12, eI i), (13, .v (ptr b13)), (29, .v (.slice (some ⟨bp, 0, none⟩) f.parts.length cx)), (30, eI f.parts.length), (31, eI i), (42, eI p.nodes.length), (43, eI k)] ∧
      Own HQ 64 12 p.nodes.length ((mixL (freeN l facts) p.nodes k).flatMap eNode) (.v (.slice an p.nodes.length cn)) h') p.nodes.length ?_ ?_
    · exact ⟨0, Nat.zero_le _, rfl, ⟨rfl, rfl, rfl, rfl, rfl, rfl, rfl, rfl, rfl, rfl, rfl, rfl, trivial⟩, by rw [mixL_zero]; exact hoN⟩
    rintro m τ h6' ⟨k, hk, rfl, hs, hoK⟩
    obtain ⟨t3, rfl⟩ := hs.open_
    (repeat (first | refine AC.seq ?_ | refine AC.block ?_ | refine AC.skip ?_))
    refine AC.region ?_
    refine AOps.step rfl rfl ?_
    refine AOp.of_run (ARun.lss rfl rfl rfl) ?_
    refine AOps.nil ?_
    (repeat (first | refine AC.seq ?_ | refine AC.block ?_ | refine AC.skip ?_)); refine AC.cond rfl (fun hc => ?_) (fun hc => ?_)
    · have hlt3 : k < p.nodes.length := by simpa using hc
      obtain ⟨bn, c2, hx, hbn, hnc2, hcm2, rfl⟩ := hoK.blk (by omega)
      injection hx with hx
      injection hx with hx1 _ hx3
      subst hx1; subst hx3
      obtain ⟨hl3, he3⟩ := mixL_get (freeN l facts) hlt3
      have hNl := mixL_len (freeN l facts) p.nodes k
      have hNset := mixL_set (freeN l facts) hlt3
      have hNsame := mixL_same (freeN l facts) hlt3
      have hgn := goneN_take l facts hlt3
      have hgnle := goneN_le l facts (p.nodes.take k)
      rw [List.length_take] at hgnle
      have hflN := flatMap_length eNode 12 eNode_len (mixL (freeN l facts) p.nodes k)
      have gN : ∀ j, j < 12 → ((mixL (freeN l facts) p.nodes k).flatMap eNode)[0 + (k : Int).toNat * 12 + j]? = (eNode p.nodes[k])[j]? := fun j hj => by
        rw [Nat.zero_add, Int.toNat_natCast, get_flatMap eNode_len hl3 hj, he3]
      have hsetN : ∀ v, freeN l facts p.nodes[k] = { p.nodes[k] with guard := v } → ((mixL (freeN l facts) p.nodes k).flatMap eNode).set (0 + (k : Int).toNat * 12 + 9) (.v (.bool v)) = (mixL (freeN l facts) p.nodes (k + 1)).flatMap eNode := fun v hv => by
        rw [Nat.zero_add, Int.toNat_natCast, set_flatMap eNode_len hl3 (by decide) { p.nodes[k] with guard := v } (.v (.bool v)) (by rw [he3]; rfl), ← hv, hNset]
      have hbnQ : ∀ j v, Ab.hset HQ bn (some (.cells ((mixL (freeN l facts) p.nodes k).flatMap eNode) 64 (cn * 12))) j = v → True := fun _ _ _ => trivial
      obtain ⟨xs, hxs⟩ : ∃ xs, xs = (mixL (freeN l facts) p.nodes k).flatMap eNode := ⟨_, rfl⟩
      generalize hX : p.nodes[k] = x at *
      have g0 : ((mixL (freeN l facts) p.nodes k).flatMap eNode)[0 + (k : Int).toNat * 12 + 0]? = some (eI x.op) := gN 0 (by decide)
      have g7 : ((mixL (freeN l facts) p.nodes k).flatMap eNode)[0 + (k : Int).toNat * 12 + 7]? = some (eI x.size) := gN 7 (by decide)
      have g9 : ((mixL (freeN l facts) p.nodes k).flatMap eNode)[0 + (k : Int).toNat * 12 + 9]? = some (eB x.guard) := gN 9 (by decide)
      have g11 : ((mixL (freeN l facts) p.nodes k).flatMap eNode)[0 + (k : Int).toNat * 12 + 11]? = some (eI x.at_) := gN 11 (by decide)
      have hBN : Ab.hset HQ bn (some (.cells ((mixL (freeN l facts) p.nodes k).flatMap eNode) 64 (cn * 12))) bn = some (.cells ((mixL (freeN l facts) p.nodes k).flatMap eNode) 64 (cn * 12)) := hset_same _ _ _
      have hB13 : Ab.hset HQ bn (some (.cells ((mixL (freeN l facts) p.nodes k).flatMap eNode) 64 (cn * 12))) b13 = some (.cells ((ePart p).set 2 (.v (.slice (some ⟨bn, 0, none⟩) p.nodes.length cn))) 60 10) := hoK.get gQ
      have hno : guardB l facts x = false → freeN l facts x = x := fun e => by unfold freeN; rw [e]; rfl
      have hyes : guardB l facts x = true → freeN l facts x = { x with guard := false } := fun e => by unfold freeN; rw [if_pos e]
      have hclose : ∀ L : List DNode, L.length = p.nodes.length → Own HQ 64 12 p.nodes.length (L.flatMap eNode) (.v (.slice (some ⟨bn, 0, none⟩) p.nodes.length cn)) (Ab.hset HQ bn (some (.cells (L.flatMap eNode) 64 (cn * 12)))) := fun L hL =>
        ⟨by rw [flatMap_length eNode 12 eNode_len, hL], .inr ⟨bn, cn, rfl, hbn, hnc2, hcm2, rfl⟩⟩
      (repeat (first | refine AC.seq ?_ | refine AC.block ?_ | refine AC.skip ?_ | refine AC.exit ?_))
      (repeat (first | refine AC.seq ?_ | refine AC.block ?_ | refine AC.skip ?_))
      refine AC.region ?_
      refine AOps.step rfl rfl ?_
      refine AOp.of_run (ARun.mvV (.inl rfl) rfl) ?_
      refine AOps.step rfl rfl ?_
      refine AOp.of_run (ARun.mvV (.inr rfl) rfl) ?_
      refine AOps.nil ?_
      (repeat (first | refine AC.seq ?_ | refine AC.block ?_ | refine AC.skip ?_))
      refine AC.region ?_
      refine AOps.step rfl rfl ?_
      refine AOp.of_run (ARun.fieldAddr rfl rfl) ?_
      refine AOps.step rfl rfl (AOp.of_run (ARun.load rfl rfl hB13 rfl) ?_)
      refine AOps.step rfl rfl ?_
      refine AOp.of_run (ARun.mvV (.inl rfl) rfl) ?_
      refine AOps.step rfl rfl ?_
      refine AOp.of_run (ARun.indexAddr rfl rfl rfl (by omega) (by omega)) ?_
      refine AOps.step rfl rfl ?_
      refine AOp.of_run (ARun.mvV (.inr rfl) rfl) ?_
      refine AOps.nil ?_
      (repeat (first | refine AC.seq ?_ | refine AC.block ?_ | refine AC.skip ?_))
      refine AC.region ?_
      refine AOps.step rfl rfl ?_
      refine AOp.of_run (ARun.mvV (.inl rfl) rfl) ?_
      refine AOps.step rfl rfl ?_
      refine AOp.of_run (ARun.nilCheck rfl rfl) ?_
      refine AOps.step rfl rfl ?_
      refine AOp.of_run (ARun.fieldAddr rfl rfl) ?_
      refine AOps.step rfl rfl (AOp.of_run (ARun.load rfl rfl hBN g0) ?_)
      refine AOps.nil ?_
      refine AC.mono (Q := fun ex τ h7 => ex = .normal ∧ Slots τ [(2, eFacts facts), (3, .lp (eLay l) 0), (6, .v (ptr b6)), (10, eI ((G0 + goneN l facts (p.nodes.take (k + 1)) : Nat))), (11, .v (ptr bg)), (12, eI i), (13, .v (ptr b13)), (29, .v (.slice (some ⟨bp, 0, none⟩) f.parts.length cx)), (30, eI f.parts.length), (31, eI i), (42, eI p.nodes.length), (43, eI k)] ∧
        h7 = Ab.hset HQ bn (some (.cells ((mixL (freeN l facts) p.nodes (k + 1)).flatMap eNode) 64 (cn * 12)))) ?_ ?_
      · have hkeep : guardB l facts x = false → G0 + goneN l facts (p.nodes.take k) = G0 + goneN l facts (p.nodes.take (k + 1)) := fun e => by rw [hgn, e]; simp
        (repeat (first | refine AC.seq ?_ | refine AC.block ?_ | refine AC.skip ?_ | refine AC.exit ?_))
        (repeat (first | refine AC.seq ?_ | refine AC.block ?_ | refine AC.skip ?_))
        refine AC.region ?_
        refine AOps.step rfl rfl ?_
        refine AOp.of_run (ARun.eql rfl rfl rfl) ?_
        refine AOps.step rfl rfl ?_
        refine AOp.of_run (ARun.mvV (.inr rfl) rfl) ?_
        refine AOps.nil ?_
        (repeat (first | refine AC.seq ?_ | refine AC.block ?_ | refine AC.skip ?_)); refine AC.cond rfl (fun hc => ?_) (fun hc => ?_)
        · have hop : x.op = 5 := by simpa using hc
          (repeat (first | refine AC.seq ?_ | refine AC.block ?_ | refine AC.skip ?_ | refine AC.exit ?_))
          cases e1 : x.guard
          · rw [e1] at g9
            (repeat (first | refine AC.seq ?_ | refine AC.block ?_ | refine AC.skip ?_ | refine AC.exit ?_))
            (repeat (first | refine AC.seq ?_ | refine AC.block ?_ | refine AC.skip ?_))
            refine AC.drawnH [0, 1, 2, 3, 4, 5, 6, 7, 8, 9, 10, 11, 12, 13, 14, 15, 16, 17, 18, 19, 20, 21, 22, 23, 24, 25, 26, 27, 28, 29, 30, 31, 32, 33, 34, 35, 36, 37, 39] [3, 8, 15, 21, 26, 28, 32, 36] [0, 1, 2, 3, 4, 5, 6, 7, 8, 9, 10, 11, 12, 13, 14, 15, 16, 17, 18, 19, 20, 21, 22, 23, 24, 25, 26, 27, 28, 29, 30, 31, 32, 33, 34, 35, 36, 37, 38, 39] mixed (by kernel_rfl) ?_
            refine RunA.pure rfl rfl rfl rfl rfl (fun _ => ARun.mvV (.inl rfl) rfl) ?_
            refine RunA.pure rfl rfl rfl rfl rfl (fun _ => ARun.nilCheck rfl rfl) ?_
            refine RunA.pure rfl rfl rfl rfl rfl (fun _ => ARun.fieldAddr rfl rfl) ?_
            refine RunA.calm rfl rfl rfl rfl rfl (HSub.refl _) (fun _ hsub => ARun.load rfl rfl (hsub _ _ hBN) g9) ?_
            refine RunA.pure rfl rfl rfl rfl rfl (fun _ => ARun.mvV (.inl rfl) rfl) ?_
            refine RunA.passU rfl rfl rfl rfl (by decide) rfl rfl (fun _ _ => (HSub.refl _)) ?_
            refine RunA.passU rfl rfl rfl rfl (by decide) rfl rfl (fun _ _ => (HSub.refl _)) ?_
            refine RunA.passU rfl rfl rfl rfl (by decide) rfl rfl (fun _ _ => (HSub.refl _)) ?_
            refine RunA.passU rfl rfl rfl rfl (by decide) rfl rfl (fun _ _ => (HSub.refl _)) ?_
            refine RunA.passU rfl rfl rfl rfl (by decide) rfl rfl (fun _ _ => (HSub.refl _)) ?_
            refine RunA.pure rfl rfl rfl rfl rfl (fun _ => ARun.pickF rfl rfl) ?_
            refine RunA.pure rfl rfl rfl rfl rfl (fun _ => ARun.mvV (.inl rfl) rfl) ?_
            refine RunA.passU rfl rfl rfl rfl (by decide) rfl rfl (fun _ _ => (HSub.refl _)) ?_
            refine RunA.passU rfl rfl rfl rfl (by decide) rfl rfl (fun _ _ => (HSub.refl _)) ?_
            refine RunA.passU rfl rfl rfl rfl (by decide) rfl rfl (fun _ _ => (HSub.refl _)) ?_
            refine RunA.passU rfl rfl rfl rfl (by decide) rfl rfl (fun _ _ => (HSub.refl _)) ?_
            refine RunA.passU rfl rfl rfl rfl (by decide) rfl rfl (fun _ _ => (HSub.refl _)) ?_
            refine RunA.passU rfl rfl rfl rfl (by decide) rfl rfl (fun _ _ => (HSub.refl _)) ?_
            refine RunA.passU rfl rfl rfl rfl (by decide) rfl rfl (fun _ _ => (HSub.refl _)) ?_
            refine RunA.pure rfl rfl rfl rfl rfl (fun _ => ARun.pickF rfl rfl) ?_
            refine RunA.pure rfl rfl rfl rfl rfl (fun _ => ARun.mvV (.inl rfl) rfl) ?_
            refine RunA.passU rfl rfl rfl rfl (by decide) rfl rfl (fun _ _ => (HSub.refl _)) ?_
            refine RunA.passU rfl rfl rfl rfl (by decide) rfl rfl (fun _ _ => (HSub.refl _)) ?_
            refine RunA.passU rfl rfl rfl rfl (by decide) rfl rfl (fun _ _ => (HSub.refl _)) ?_
            refine RunA.passU rfl rfl rfl rfl (by decide) rfl rfl (fun _ _ => (HSub.refl _)) ?_
            refine RunA.passU rfl rfl rfl rfl (by decide) rfl rfl (fun _ _ => (HSub.refl _)) ?_
            refine RunA.passU rfl rfl rfl rfl (by decide) rfl rfl (fun _ _ => (HSub.refl _)) ?_
            refine RunA.passU rfl rfl rfl rfl (by decide) rfl rfl (fun _ _ => (HSub.refl _)) ?_
            refine RunA.passU rfl rfl rfl rfl (by decide) rfl rfl (fun _ _ => (HSub.refl _)) ?_
            refine RunA.passU rfl rfl rfl rfl (by decide) rfl rfl (fun _ _ => (HSub.refl _)) ?_
            refine RunA.passU rfl rfl rfl rfl (by decide) rfl rfl (fun _ _ => (HSub.refl _)) ?_
            refine RunA.passU rfl rfl rfl rfl (by decide) rfl rfl (fun _ _ => (HSub.refl _)) ?_
            refine RunA.passU rfl rfl rfl rfl (by decide) rfl rfl (fun _ _ => (HSub.refl _)) ?_
            refine RunA.passU rfl rfl rfl rfl (by decide) rfl rfl (fun _ _ => (HSub.refl _)) ?_
            refine RunA.passU rfl rfl rfl rfl (by decide) rfl rfl (fun _ _ => (HSub.refl _)) ?_
            refine RunA.passU rfl rfl rfl rfl (by decide) rfl rfl (fun _ _ => (HSub.refl _)) ?_
            refine RunA.passU rfl rfl rfl rfl (by decide) rfl rfl (fun _ _ => (HSub.refl _)) ?_
            refine RunA.passU rfl rfl rfl rfl (by decide) rfl rfl (fun _ _ => (HSub.refl _)) ?_
            refine RunA.passU rfl rfl rfl rfl (by decide) rfl rfl (fun _ _ => (HSub.refl _)) ?_
            refine RunA.pure rfl rfl rfl rfl rfl (fun _ => ARun.pickF rfl rfl) ?_
            refine RunA.nil ?_
            (repeat (first | refine AC.seq ?_ | refine AC.block ?_ | refine AC.skip ?_)); refine AC.cond rfl (fun hc => ?_) (fun hc => ?_)
            · cases hc
            have hg0 : guardB l facts x = false := by simp [guardB, e1]
            rw [hno hg0] at hNsame
            rw [hkeep hg0, hNsame rfl]
            (repeat (first | refine AC.seq ?_ | refine AC.block ?_ | refine AC.skip ?_ | refine AC.exit ?_))
            exact ⟨rfl, ⟨rfl, rfl, rfl, rfl, rfl, rfl, rfl, rfl, rfl, rfl, rfl, rfl, trivial⟩, rfl⟩
          rw [e1] at g9
          cases e2 : decide (0 ≤ x.at_)
          · (repeat (first | refine AC.seq ?_ | refine AC.block ?_ | refine AC.skip ?_ | refine AC.exit ?_))
            (repeat (first | refine AC.seq ?_ | refine AC.block ?_ | refine AC.skip ?_))
            refine AC.drawnH [0, 1, 2, 3, 4, 5, 6, 7, 8, 9, 10, 11, 12, 13, 14, 15, 16, 17, 18, 19, 20, 21, 22, 23, 24, 25, 26, 27, 28, 29, 30, 31, 32, 33, 34, 35, 36, 37, 39] [3, 8, 15, 21, 26, 28, 32, 36] [0, 1, 2, 3, 4, 5, 6, 7, 8, 9, 10, 11, 12, 13, 14, 15, 16, 17, 18, 19, 20, 21, 22, 23, 24, 25, 26, 27, 28, 29, 30, 31, 32, 33, 34, 35, 36, 37, 38, 39] mixed (by kernel_rfl) ?_
            refine RunA.pure rfl rfl rfl rfl rfl (fun _ => ARun.mvV (.inl rfl) rfl) ?_
            refine RunA.pure rfl rfl rfl rfl rfl (fun _ => ARun.nilCheck rfl rfl) ?_
            refine RunA.pure rfl rfl rfl rfl rfl (fun _ => ARun.fieldAddr rfl rfl) ?_
            refine RunA.calm rfl rfl rfl rfl rfl (HSub.refl _) (fun _ hsub => ARun.load rfl rfl (hsub _ _ hBN) g9) ?_
            refine RunA.pure rfl rfl rfl rfl rfl (fun _ => ARun.mvV (.inl rfl) rfl) ?_
            refine RunA.pureG rfl rfl rfl rfl rfl rfl (by decide) rfl (fun _ => ARun.mvV (.inl rfl) rfl) ?_
            refine RunA.pureG rfl rfl rfl rfl rfl rfl (by decide) rfl (fun _ => ARun.nilCheck rfl rfl) ?_
            refine RunA.pureG rfl rfl rfl rfl rfl rfl (by decide) rfl (fun _ => ARun.fieldAddr rfl rfl) ?_
            refine RunA.calmG rfl rfl rfl rfl rfl rfl (by decide) rfl (HSub.refl _) (fun _ hsub => ARun.load rfl rfl (hsub _ _ hBN) g11) ?_
            refine RunA.pureG rfl rfl rfl rfl rfl rfl (by decide) rfl (fun _ => ARun.geqV rfl rfl rfl e2) ?_
            refine RunA.pure rfl rfl rfl rfl rfl (fun _ => ARun.pickT rfl rfl) ?_
            refine RunA.pure rfl rfl rfl rfl rfl (fun _ => ARun.mvV (.inl rfl) rfl) ?_
            refine RunA.passU rfl rfl rfl rfl (by decide) rfl rfl (fun _ _ => (HSub.refl _)) ?_
            refine RunA.passU rfl rfl rfl rfl (by decide) rfl rfl (fun _ _ => (HSub.refl _)) ?_
            refine RunA.passU rfl rfl rfl rfl (by decide) rfl rfl (fun _ _ => (HSub.refl _)) ?_
            refine RunA.passU rfl rfl rfl rfl (by decide) rfl rfl (fun _ _ => (HSub.refl _)) ?_
            refine RunA.passU rfl rfl rfl rfl (by decide) rfl rfl (fun _ _ => (HSub.refl _)) ?_
            refine RunA.passU rfl rfl rfl rfl (by decide) rfl rfl (fun _ _ => (HSub.refl _)) ?_
            refine RunA.passU rfl rfl rfl rfl (by decide) rfl rfl (fun _ _ => (HSub.refl _)) ?_
            refine RunA.pure rfl rfl rfl rfl rfl (fun _ => ARun.pickF rfl rfl) ?_
            refine RunA.pure rfl rfl rfl rfl rfl (fun _ => ARun.mvV (.inl rfl) rfl) ?_
            refine RunA.passU rfl rfl rfl rfl (by decide) rfl rfl (fun _ _ => (HSub.refl _)) ?_
            refine RunA.passU rfl rfl rfl rfl (by decide) rfl rfl (fun _ _ => (HSub.refl _)) ?_
            refine RunA.passU rfl rfl rfl rfl (by decide) rfl rfl (fun _ _ => (HSub.refl _)) ?_
            refine RunA.passU rfl rfl rfl rfl (by decide) rfl rfl (fun _ _ => (HSub.refl _)) ?_
            refine RunA.passU rfl rfl rfl rfl (by decide) rfl rfl (fun _ _ => (HSub.refl _)) ?_
            refine RunA.passU rfl rfl rfl rfl (by decide) rfl rfl (fun _ _ => (HSub.refl _)) ?_
            refine RunA.passU rfl rfl rfl rfl (by decide) rfl rfl (fun _ _ => (HSub.refl _)) ?_
            refine RunA.passU rfl rfl rfl rfl (by decide) rfl rfl (fun _ _ => (HSub.refl _)) ?_
            refine RunA.passU rfl rfl rfl rfl (by decide) rfl rfl (fun _ _ => (HSub.refl _)) ?_
            refine RunA.passU rfl rfl rfl rfl (by decide) rfl rfl (fun _ _ => (HSub.refl _)) ?_
            refine RunA.passU rfl rfl rfl rfl (by decide) rfl rfl (fun _ _ => (HSub.refl _)) ?_
            refine RunA.passU rfl rfl rfl rfl (by decide) rfl rfl (fun _ _ => (HSub.refl _)) ?_
            refine RunA.passU rfl rfl rfl rfl (by decide) rfl rfl (fun _ _ => (HSub.refl _)) ?_
            refine RunA.passU rfl rfl rfl rfl (by decide) rfl rfl (fun _ _ => (HSub.refl _)) ?_
            refine RunA.passU rfl rfl rfl rfl (by decide) rfl rfl (fun _ _ => (HSub.refl _)) ?_
            refine RunA.passU rfl rfl rfl rfl (by decide) rfl rfl (fun _ _ => (HSub.refl _)) ?_
            refine RunA.passU rfl rfl rfl rfl (by decide) rfl rfl (fun _ _ => (HSub.refl _)) ?_
            refine RunA.passU rfl rfl rfl rfl (by decide) rfl rfl (fun _ _ => (HSub.refl _)) ?_
            refine RunA.pure rfl rfl rfl rfl rfl (fun _ => ARun.pickF rfl rfl) ?_
            refine RunA.nil ?_
            (repeat (first | refine AC.seq ?_ | refine AC.block ?_ | refine AC.skip ?_)); refine AC.cond rfl (fun hc => ?_) (fun hc => ?_)
            · cases hc
            have hg0 : guardB l facts x = false := by simp [guardB, e2]
            rw [hno hg0] at hNsame
            rw [hkeep hg0, hNsame rfl]
            (repeat (first | refine AC.seq ?_ | refine AC.block ?_ | refine AC.skip ?_ | refine AC.exit ?_))
            exact ⟨rfl, ⟨rfl, rfl, rfl, rfl, rfl, rfl, rfl, rfl, rfl, rfl, rfl, rfl, trivial⟩, rfl⟩
          have h0 : 0 ≤ x.at_ := by simpa using e2
          cases e3 : decide (x.at_ < facts.length)
          · have h1 : facts[x.at_.toNat]? = none := List.getElem?_eq_none (by have := of_decide_eq_false e3; omega)
            (repeat (first | refine AC.seq ?_ | refine AC.block ?_ | refine AC.skip ?_ | refine AC.exit ?_))
            (repeat (first | refine AC.seq ?_ | refine AC.block ?_ | refine AC.skip ?_))
            refine AC.drawnH [0, 1, 2, 3, 4, 5, 6, 7, 8, 9, 10, 11, 12, 13, 14, 15, 16, 17, 18, 19, 20, 21, 22, 23, 24, 25, 26, 27, 28, 29, 30, 31, 32, 33, 34, 35, 36, 37, 39] [3, 8, 15, 21, 26, 28, 32, 36] [0, 1, 2, 3, 4, 5, 6, 7, 8, 9, 10, 11, 12, 13, 14, 15, 16, 17, 18, 19, 20, 21, 22, 23, 24, 25, 26, 27, 28, 29, 30, 31, 32, 33, 34, 35, 36, 37, 38, 39] mixed (by kernel_rfl) ?_
            refine RunA.pure rfl rfl rfl rfl rfl (fun _ => ARun.mvV (.inl rfl) rfl) ?_
            refine RunA.pure rfl rfl rfl rfl rfl (fun _ => ARun.nilCheck rfl rfl) ?_
            refine RunA.pure rfl rfl rfl rfl rfl (fun _ => ARun.fieldAddr rfl rfl) ?_
            refine RunA.calm rfl rfl rfl rfl rfl (HSub.refl _) (fun _ hsub => ARun.load rfl rfl (hsub _ _ hBN) g9) ?_
            refine RunA.pure rfl rfl rfl rfl rfl (fun _ => ARun.mvV (.inl rfl) rfl) ?_
            refine RunA.pureG rfl rfl rfl rfl rfl rfl (by decide) rfl (fun _ => ARun.mvV (.inl rfl) rfl) ?_
            refine RunA.pureG rfl rfl rfl rfl rfl rfl (by decide) rfl (fun _ => ARun.nilCheck rfl rfl) ?_
            refine RunA.pureG rfl rfl rfl rfl rfl rfl (by decide) rfl (fun _ => ARun.fieldAddr rfl rfl) ?_
            refine RunA.calmG rfl rfl rfl rfl rfl rfl (by decide) rfl (HSub.refl _) (fun _ hsub => ARun.load rfl rfl (hsub _ _ hBN) g11) ?_
            refine RunA.pureG rfl rfl rfl rfl rfl rfl (by decide) rfl (fun _ => ARun.geqV rfl rfl rfl e2) ?_
            refine RunA.pure rfl rfl rfl rfl rfl (fun _ => ARun.pickT rfl rfl) ?_
            refine RunA.pure rfl rfl rfl rfl rfl (fun _ => ARun.mvV (.inl rfl) rfl) ?_
            refine RunA.pureG rfl rfl rfl rfl rfl rfl (by decide) rfl (fun _ => ARun.mvV (.inl rfl) rfl) ?_
            refine RunA.pureG rfl rfl rfl rfl rfl rfl (by decide) rfl (fun _ => ARun.nilCheck rfl rfl) ?_
            refine RunA.pureG rfl rfl rfl rfl rfl rfl (by decide) rfl (fun _ => ARun.fieldAddr rfl rfl) ?_
            refine RunA.calmG rfl rfl rfl rfl rfl rfl (by decide) rfl (HSub.refl _) (fun _ hsub => ARun.load rfl rfl (hsub _ _ hBN) g11) ?_
            refine RunA.pureG rfl rfl rfl rfl rfl rfl (by decide) rfl (fun _ => ARun.mvL (.inl rfl) rfl) ?_
            refine RunA.pureG rfl rfl rfl rfl rfl rfl (by decide) rfl (fun _ => ARun.lenL rfl rfl) ?_
            refine RunA.pureG rfl rfl rfl rfl rfl rfl (by decide) rfl (fun _ => ARun.lssV rfl rfl rfl e3) ?_
            refine RunA.pure rfl rfl rfl rfl rfl (fun _ => ARun.pickT rfl rfl) ?_
            refine RunA.pure rfl rfl rfl rfl rfl (fun _ => ARun.mvV (.inl rfl) rfl) ?_
            refine RunA.passU rfl rfl rfl rfl (by decide) rfl rfl (fun _ _ => (HSub.refl _)) ?_
            refine RunA.passU rfl rfl rfl rfl (by decide) rfl rfl (fun _ _ => (HSub.refl _)) ?_
            refine RunA.passU rfl rfl rfl rfl (by decide) rfl rfl (fun _ _ => (HSub.refl _)) ?_
            refine RunA.passU rfl rfl rfl rfl (by decide) rfl rfl (fun _ _ => (HSub.refl _)) ?_
            refine RunA.passU rfl rfl rfl rfl (by decide) rfl rfl (fun _ _ => (HSub.refl _)) ?_
            refine RunA.passU rfl rfl rfl rfl (by decide) rfl rfl (fun _ _ => (HSub.refl _)) ?_
            refine RunA.passU rfl rfl rfl rfl (by decide) rfl rfl (fun _ _ => (HSub.refl _)) ?_
            refine RunA.passU rfl rfl rfl rfl (by decide) rfl rfl (fun _ _ => (HSub.refl _)) ?_
            refine RunA.passU rfl rfl rfl rfl (by decide) rfl rfl (fun _ _ => (HSub.refl _)) ?_
            refine RunA.passU rfl rfl rfl rfl (by decide) rfl rfl (fun _ _ => (HSub.refl _)) ?_
            refine RunA.passU rfl rfl rfl rfl (by decide) rfl rfl (fun _ _ => (HSub.refl _)) ?_
            refine RunA.passU rfl rfl rfl rfl (by decide) rfl rfl (fun _ _ => (HSub.refl _)) ?_
            refine RunA.passU rfl rfl rfl rfl (by decide) rfl rfl (fun _ _ => (HSub.refl _)) ?_
            refine RunA.passU rfl rfl rfl rfl (by decide) rfl rfl (fun _ _ => (HSub.refl _)) ?_
            refine RunA.passU rfl rfl rfl rfl (by decide) rfl rfl (fun _ _ => (HSub.refl _)) ?_
            refine RunA.passU rfl rfl rfl rfl (by decide) rfl rfl (fun _ _ => (HSub.refl _)) ?_
            refine RunA.passU rfl rfl rfl rfl (by decide) rfl rfl (fun _ _ => (HSub.refl _)) ?_
            refine RunA.passU rfl rfl rfl rfl (by decide) rfl rfl (fun _ _ => (HSub.refl _)) ?_
            refine RunA.pure rfl rfl rfl rfl rfl (fun _ => ARun.pickF rfl rfl) ?_
            refine RunA.nil ?_
            (repeat (first | refine AC.seq ?_ | refine AC.block ?_ | refine AC.skip ?_)); refine AC.cond rfl (fun hc => ?_) (fun hc => ?_)
            · cases hc
            have hg0 : guardB l facts x = false := by simp [guardB, h1]
            rw [hno hg0] at hNsame
            rw [hkeep hg0, hNsame rfl]
            (repeat (first | refine AC.seq ?_ | refine AC.block ?_ | refine AC.skip ?_ | refine AC.exit ?_))
            exact ⟨rfl, ⟨rfl, rfl, rfl, rfl, rfl, rfl, rfl, rfl, rfl, rfl, rfl, rfl, trivial⟩, rfl⟩
          have h1 : x.at_ < facts.length := by simpa using e3
          have h2 : x.at_.toNat < facts.length := by omega
          have h3 : facts[x.at_.toNat]? = some facts[x.at_.toNat] := List.getElem?_eq_getElem h2
          have gF : rdc (facts.flatMap eFact) (x.at_.toNat * 4) 4 = some (eFact facts[x.at_.toNat]) := rdc_flatMap eFact_len h2
          generalize facts[x.at_.toNat] = fa at *
          have hval : guardB l facts x = provB l fa x.size (decide (x.op = 6)) := by
            unfold guardB
            rw [h3, e1, e2]; simp [hop]
          have keyV : ∀ h1, Sp Try.prog 16 [.agg (eLay l), .agg (eFact fa), eI x.size, eB (decide (x.op = 6))] h1 (fun r h' => r = eB (guardB l facts x) ∧ h' = h1) := fun h1 => by
            rw [hval]; exact Proves_spec l fa x.size _ h1 hm
          (repeat (first | refine AC.seq ?_ | refine AC.block ?_ | refine AC.skip ?_ | refine AC.exit ?_))
          (repeat (first | refine AC.seq ?_ | refine AC.block ?_ | refine AC.skip ?_))
          refine AC.drawnH [0, 1, 2, 3, 4, 5, 6, 7, 8, 9, 10, 11, 12, 13, 14, 15, 16, 17, 18, 19, 20, 21, 22, 23, 24, 25, 26, 27, 28, 29, 30, 31, 32, 33, 34, 35, 36, 37, 39] [3, 8, 15, 21, 26, 28, 32, 36] [0, 1, 2, 3, 4, 5, 6, 7, 8, 9, 10, 11, 12, 13, 14, 15, 16, 17, 18, 19, 20, 21, 22, 23, 24, 25, 26, 27, 28, 29, 30, 31, 32, 33, 34, 35, 36, 37, 38, 39] mixed (by kernel_rfl) ?_
          refine RunA.pure rfl rfl rfl rfl rfl (fun _ => ARun.mvV (.inl rfl) rfl) ?_
          refine RunA.pure rfl rfl rfl rfl rfl (fun _ => ARun.nilCheck rfl rfl) ?_
          refine RunA.pure rfl rfl rfl rfl rfl (fun _ => ARun.fieldAddr rfl rfl) ?_
          refine RunA.calm rfl rfl rfl rfl rfl (HSub.refl _) (fun _ hsub => ARun.load rfl rfl (hsub _ _ hBN) g9) ?_
          refine RunA.pure rfl rfl rfl rfl rfl (fun _ => ARun.mvV (.inl rfl) rfl) ?_
          refine RunA.pureG rfl rfl rfl rfl rfl rfl (by decide) rfl (fun _ => ARun.mvV (.inl rfl) rfl) ?_
          refine RunA.pureG rfl rfl rfl rfl rfl rfl (by decide) rfl (fun _ => ARun.nilCheck rfl rfl) ?_
          refine RunA.pureG rfl rfl rfl rfl rfl rfl (by decide) rfl (fun _ => ARun.fieldAddr rfl rfl) ?_
          refine RunA.calmG rfl rfl rfl rfl rfl rfl (by decide) rfl (HSub.refl _) (fun _ hsub => ARun.load rfl rfl (hsub _ _ hBN) g11) ?_
          refine RunA.pureG rfl rfl rfl rfl rfl rfl (by decide) rfl (fun _ => ARun.geqV rfl rfl rfl e2) ?_
          refine RunA.pure rfl rfl rfl rfl rfl (fun _ => ARun.pickT rfl rfl) ?_
          refine RunA.pure rfl rfl rfl rfl rfl (fun _ => ARun.mvV (.inl rfl) rfl) ?_
          refine RunA.pureG rfl rfl rfl rfl rfl rfl (by decide) rfl (fun _ => ARun.mvV (.inl rfl) rfl) ?_
          refine RunA.pureG rfl rfl rfl rfl rfl rfl (by decide) rfl (fun _ => ARun.nilCheck rfl rfl) ?_
          refine RunA.pureG rfl rfl rfl rfl rfl rfl (by decide) rfl (fun _ => ARun.fieldAddr rfl rfl) ?_
          refine RunA.calmG rfl rfl rfl rfl rfl rfl (by decide) rfl (HSub.refl _) (fun _ hsub => ARun.load rfl rfl (hsub _ _ hBN) g11) ?_
          refine RunA.pureG rfl rfl rfl rfl rfl rfl (by decide) rfl (fun _ => ARun.mvL (.inl rfl) rfl) ?_
          refine RunA.pureG rfl rfl rfl rfl rfl rfl (by decide) rfl (fun _ => ARun.lenL rfl rfl) ?_
          refine RunA.pureG rfl rfl rfl rfl rfl rfl (by decide) rfl (fun _ => ARun.lssV rfl rfl rfl e3) ?_
          refine RunA.pure rfl rfl rfl rfl rfl (fun _ => ARun.pickT rfl rfl) ?_
          refine RunA.pure rfl rfl rfl rfl rfl (fun _ => ARun.mvV (.inl rfl) rfl) ?_
          refine RunA.calmG rfl rfl rfl rfl rfl rfl (by decide) rfl (HSub.refl _) (fun _ hsub => ARun.loadNL rfl rfl rfl) ?_
          refine RunA.pureG rfl rfl rfl rfl rfl rfl (by decide) rfl (fun _ => ARun.mvL (.inl rfl) rfl) ?_
          refine RunA.pureG rfl rfl rfl rfl rfl rfl (by decide) rfl (fun _ => ARun.mvV (.inl rfl) rfl) ?_
          refine RunA.pureG rfl rfl rfl rfl rfl rfl (by decide) rfl (fun _ => ARun.nilCheck rfl rfl) ?_
          refine RunA.pureG rfl rfl rfl rfl rfl rfl (by decide) rfl (fun _ => ARun.fieldAddr rfl rfl) ?_
          refine RunA.calmG rfl rfl rfl rfl rfl rfl (by decide) rfl (HSub.refl _) (fun _ hsub => ARun.load rfl rfl (hsub _ _ hBN) g11) ?_
          refine RunA.pureG rfl rfl rfl rfl rfl rfl (by decide) rfl (fun _ => ARun.indexAddrL rfl rfl rfl (by omega) (by omega)) ?_
          refine RunA.calmG rfl rfl rfl rfl rfl rfl (by decide) rfl (HSub.refl _) (fun _ hsub => ARun.loadNL rfl rfl gF) ?_
          refine RunA.pureG rfl rfl rfl rfl rfl rfl (by decide) rfl (fun _ => ARun.mvV (.inl rfl) rfl) ?_
          refine RunA.pureG rfl rfl rfl rfl rfl rfl (by decide) rfl (fun _ => ARun.nilCheck rfl rfl) ?_
          refine RunA.pureG rfl rfl rfl rfl rfl rfl (by decide) rfl (fun _ => ARun.fieldAddr rfl rfl) ?_
          refine RunA.calmG rfl rfl rfl rfl rfl rfl (by decide) rfl (HSub.refl _) (fun _ hsub => ARun.load rfl rfl (hsub _ _ hBN) g7) ?_
          refine RunA.pureG rfl rfl rfl rfl rfl rfl (by decide) rfl (fun _ => ARun.mvV (.inl rfl) rfl) ?_
          refine RunA.pureG rfl rfl rfl rfl rfl rfl (by decide) rfl (fun _ => ARun.nilCheck rfl rfl) ?_
          refine RunA.pureG rfl rfl rfl rfl rfl rfl (by decide) rfl (fun _ => ARun.fieldAddr rfl rfl) ?_
          refine RunA.calmG rfl rfl rfl rfl rfl rfl (by decide) rfl (HSub.refl _) (fun _ hsub => ARun.load rfl rfl (hsub _ _ hBN) g0) ?_
          refine RunA.pureG rfl rfl rfl rfl rfl rfl (by decide) rfl (fun _ => ARun.eql rfl rfl rfl) ?_
          refine RunA.opG rfl rfl rfl rfl rfl (by decide) rfl ?_
          refine AOp.call_ rfl rfl ((keyV _).mono ?_)
          rintro _ _ ⟨rfl, rfl⟩; refine ⟨fun _ q => q, ?_⟩
          refine RunA.pure rfl rfl rfl rfl rfl (fun _ => ARun.pickT rfl rfl) ?_
          refine RunA.nil ?_
          (repeat (first | refine AC.seq ?_ | refine AC.block ?_ | refine AC.skip ?_)); refine AC.cond rfl (fun hc => ?_) (fun hc => ?_)
          · have hgt : guardB l facts x = true := hc
            have hst := hsetN false (hyes hgt)
            rw [hgt] at hgn
            (repeat (first | refine AC.seq ?_ | refine AC.block ?_ | refine AC.skip ?_))
            refine AC.region ?_
            refine AOps.step rfl rfl ?_
            refine AOp.of_run (ARun.mvV (.inl rfl) rfl) ?_
            refine AOps.step rfl rfl ?_
            refine AOp.of_run (ARun.nilCheck rfl rfl) ?_
            refine AOps.step rfl rfl ?_
            refine AOp.of_run (ARun.fieldAddr rfl rfl) ?_
            refine AOps.step rfl rfl (AOp.store1 rfl rfl hBN rfl (by rw [hflN, hNl]; show 0 + (k : Int).toNat * 12 + 9 < _; omega) ?_)
            refine AOps.nil ?_
            rw [hset_hset]
            (repeat (first | refine AC.seq ?_ | refine AC.block ?_ | refine AC.skip ?_))
            refine AC.region ?_
            refine AOps.step rfl rfl ?_
            refine AOp.of_run (ARun.mvV (.inl rfl) rfl) ?_
            refine AOps.step rfl rfl ?_
            refine AOp.of_run (ARun.add rfl rfl rfl) ?_
            refine AOps.step rfl rfl ?_
            refine AOp.of_run (ARun.mvV (.inr rfl) rfl) ?_
            refine AOps.nil ?_
            (repeat (first | refine AC.seq ?_ | refine AC.block ?_ | refine AC.skip ?_ | refine AC.exit ?_))
            exact ⟨rfl, ⟨rfl, rfl, rfl, eI_wrap (by omega) (by omega) (by simp at hgn; omega), rfl, rfl, rfl, rfl, rfl, rfl, rfl, rfl, trivial⟩, by rw [← hst]⟩
          · have hg0 : guardB l facts x = false := by exact hc
            rw [hno hg0] at hNsame
            rw [hkeep hg0, hNsame rfl]
            (repeat (first | refine AC.seq ?_ | refine AC.block ?_ | refine AC.skip ?_ | refine AC.exit ?_))
            exact ⟨rfl, ⟨rfl, rfl, rfl, rfl, rfl, rfl, rfl, rfl, rfl, rfl, rfl, rfl, trivial⟩, rfl⟩
        · have hop5 : x.op ≠ 5 := by simpa using hc
          (repeat (first | refine AC.seq ?_ | refine AC.block ?_ | refine AC.skip ?_ | refine AC.exit ?_))
          (repeat (first | refine AC.seq ?_ | refine AC.block ?_ | refine AC.skip ?_))
          refine AC.region ?_
          refine AOps.step rfl rfl ?_
          refine AOp.of_run (ARun.eql rfl rfl rfl) ?_
          refine AOps.step rfl rfl ?_
          refine AOp.of_run (ARun.mvV (.inr rfl) rfl) ?_
          refine AOps.nil ?_
          (repeat (first | refine AC.seq ?_ | refine AC.block ?_ | refine AC.skip ?_)); refine AC.cond rfl (fun hc => ?_) (fun hc => ?_)
          · have hop : x.op = 6 := by simpa using hc
            (repeat (first | refine AC.seq ?_ | refine AC.block ?_ | refine AC.skip ?_ | refine AC.exit ?_))
            cases e1 : x.guard
            · rw [e1] at g9
              (repeat (first | refine AC.seq ?_ | refine AC.block ?_ | refine AC.skip ?_ | refine AC.exit ?_))
              (repeat (first | refine AC.seq ?_ | refine AC.block ?_ | refine AC.skip ?_))
              refine AC.drawnH [0, 1, 2, 3, 4, 5, 6, 7, 8, 9, 10, 11, 12, 13, 14, 15, 16, 17, 18, 19, 20, 21, 22, 23, 24, 25, 26, 27, 28, 29, 30, 31, 32, 33, 34, 35, 36, 37, 39] [3, 8, 15, 21, 26, 28, 32, 36] [0, 1, 2, 3, 4, 5, 6, 7, 8, 9, 10, 11, 12, 13, 14, 15, 16, 17, 18, 19, 20, 21, 22, 23, 24, 25, 26, 27, 28, 29, 30, 31, 32, 33, 34, 35, 36, 37, 38, 39] mixed (by kernel_rfl) ?_
              refine RunA.pure rfl rfl rfl rfl rfl (fun _ => ARun.mvV (.inl rfl) rfl) ?_
              refine RunA.pure rfl rfl rfl rfl rfl (fun _ => ARun.nilCheck rfl rfl) ?_
              refine RunA.pure rfl rfl rfl rfl rfl (fun _ => ARun.fieldAddr rfl rfl) ?_
              refine RunA.calm rfl rfl rfl rfl rfl (HSub.refl _) (fun _ hsub => ARun.load rfl rfl (hsub _ _ hBN) g9) ?_
              refine RunA.pure rfl rfl rfl rfl rfl (fun _ => ARun.mvV (.inl rfl) rfl) ?_
              refine RunA.passU rfl rfl rfl rfl (by decide) rfl rfl (fun _ _ => (HSub.refl _)) ?_
              refine RunA.passU rfl rfl rfl rfl (by decide) rfl rfl (fun _ _ => (HSub.refl _)) ?_
              refine RunA.passU rfl rfl rfl rfl (by decide) rfl rfl (fun _ _ => (HSub.refl _)) ?_
              refine RunA.passU rfl rfl rfl rfl (by decide) rfl rfl (fun _ _ => (HSub.refl _)) ?_
              refine RunA.passU rfl rfl rfl rfl (by decide) rfl rfl (fun _ _ => (HSub.refl _)) ?_
              refine RunA.pure rfl rfl rfl rfl rfl (fun _ => ARun.pickF rfl rfl) ?_
              refine RunA.pure rfl rfl rfl rfl rfl (fun _ => ARun.mvV (.inl rfl) rfl) ?_
              refine RunA.passU rfl rfl rfl rfl (by decide) rfl rfl (fun _ _ => (HSub.refl _)) ?_
              refine RunA.passU rfl rfl rfl rfl (by decide) rfl rfl (fun _ _ => (HSub.refl _)) ?_
              refine RunA.passU rfl rfl rfl rfl (by decide) rfl rfl (fun _ _ => (HSub.refl _)) ?_
              refine RunA.passU rfl rfl rfl rfl (by decide) rfl rfl (fun _ _ => (HSub.refl _)) ?_
              refine RunA.passU rfl rfl rfl rfl (by decide) rfl rfl (fun _ _ => (HSub.refl _)) ?_
              refine RunA.passU rfl rfl rfl rfl (by decide) rfl rfl (fun _ _ => (HSub.refl _)) ?_
              refine RunA.passU rfl rfl rfl rfl (by decide) rfl rfl (fun _ _ => (HSub.refl _)) ?_
              refine RunA.pure rfl rfl rfl rfl rfl (fun _ => ARun.pickF rfl rfl) ?_
              refine RunA.pure rfl rfl rfl rfl rfl (fun _ => ARun.mvV (.inl rfl) rfl) ?_
              refine RunA.passU rfl rfl rfl rfl (by decide) rfl rfl (fun _ _ => (HSub.refl _)) ?_
              refine RunA.passU rfl rfl rfl rfl (by decide) rfl rfl (fun _ _ => (HSub.refl _)) ?_
              refine RunA.passU rfl rfl rfl rfl (by decide) rfl rfl (fun _ _ => (HSub.refl _)) ?_
              refine RunA.passU rfl rfl rfl rfl (by decide) rfl rfl (fun _ _ => (HSub.refl _)) ?_
              refine RunA.passU rfl rfl rfl rfl (by decide) rfl rfl (fun _ _ => (HSub.refl _)) ?_
              refine RunA.passU rfl rfl rfl rfl (by decide) rfl rfl (fun _ _ => (HSub.refl _)) ?_
              refine RunA.passU rfl rfl rfl rfl (by decide) rfl rfl (fun _ _ => (HSub.refl _)) ?_
              refine RunA.passU rfl rfl rfl rfl (by decide) rfl rfl (fun _ _ => (HSub.refl _)) ?_
              refine RunA.passU rfl rfl rfl rfl (by decide) rfl rfl (fun _ _ => (HSub.refl _)) ?_
              refine RunA.passU rfl rfl rfl rfl (by decide) rfl rfl (fun _ _ => (HSub.refl _)) ?_
              refine RunA.passU rfl rfl rfl rfl (by decide) rfl rfl (fun _ _ => (HSub.refl _)) ?_
              refine RunA.passU rfl rfl rfl rfl (by decide) rfl rfl (fun _ _ => (HSub.refl _)) ?_
              refine RunA.passU rfl rfl rfl rfl (by decide) rfl rfl (fun _ _ => (HSub.refl _)) ?_
              refine RunA.passU rfl rfl rfl rfl (by decide) rfl rfl (fun _ _ => (HSub.refl _)) ?_
              refine RunA.passU rfl rfl rfl rfl (by decide) rfl rfl (fun _ _ => (HSub.refl _)) ?_
              refine RunA.passU rfl rfl rfl rfl (by decide) rfl rfl (fun _ _ => (HSub.refl _)) ?_
              refine RunA.passU rfl rfl rfl rfl (by decide) rfl rfl (fun _ _ => (HSub.refl _)) ?_
              refine RunA.passU rfl rfl rfl rfl (by decide) rfl rfl (fun _ _ => (HSub.refl _)) ?_
              refine RunA.pure rfl rfl rfl rfl rfl (fun _ => ARun.pickF rfl rfl) ?_
              refine RunA.nil ?_
              (repeat (first | refine AC.seq ?_ | refine AC.block ?_ | refine AC.skip ?_)); refine AC.cond rfl (fun hc => ?_) (fun hc => ?_)
              · cases hc
              have hg0 : guardB l facts x = false := by simp [guardB, e1]
              rw [hno hg0] at hNsame
              rw [hkeep hg0, hNsame rfl]
              (repeat (first | refine AC.seq ?_ | refine AC.block ?_ | refine AC.skip ?_ | refine AC.exit ?_))
              exact ⟨rfl, ⟨rfl, rfl, rfl, rfl, rfl, rfl, rfl, rfl, rfl, rfl, rfl, rfl, trivial⟩, rfl⟩
            rw [e1] at g9
            cases e2 : decide (0 ≤ x.at_)
            · (repeat (first | refine AC.seq ?_ | refine AC.block ?_ | refine AC.skip ?_ | refine AC.exit ?_))
              (repeat (first | refine AC.seq ?_ | refine AC.block ?_ | refine AC.skip ?_))
              refine AC.drawnH [0, 1, 2, 3, 4, 5, 6, 7, 8, 9, 10, 11, 12, 13, 14, 15, 16, 17, 18, 19, 20, 21, 22, 23, 24, 25, 26, 27, 28, 29, 30, 31, 32, 33, 34, 35, 36, 37, 39] [3, 8, 15, 21, 26, 28, 32, 36] [0, 1, 2, 3, 4, 5, 6, 7, 8, 9, 10, 11, 12, 13, 14, 15, 16, 17, 18, 19, 20, 21, 22, 23, 24, 25, 26, 27, 28, 29, 30, 31, 32, 33, 34, 35, 36, 37, 38, 39] mixed (by kernel_rfl) ?_
              refine RunA.pure rfl rfl rfl rfl rfl (fun _ => ARun.mvV (.inl rfl) rfl) ?_
              refine RunA.pure rfl rfl rfl rfl rfl (fun _ => ARun.nilCheck rfl rfl) ?_
              refine RunA.pure rfl rfl rfl rfl rfl (fun _ => ARun.fieldAddr rfl rfl) ?_
              refine RunA.calm rfl rfl rfl rfl rfl (HSub.refl _) (fun _ hsub => ARun.load rfl rfl (hsub _ _ hBN) g9) ?_
              refine RunA.pure rfl rfl rfl rfl rfl (fun _ => ARun.mvV (.inl rfl) rfl) ?_
              refine RunA.pureG rfl rfl rfl rfl rfl rfl (by decide) rfl (fun _ => ARun.mvV (.inl rfl) rfl) ?_
              refine RunA.pureG rfl rfl rfl rfl rfl rfl (by decide) rfl (fun _ => ARun.nilCheck rfl rfl) ?_
              refine RunA.pureG rfl rfl rfl rfl rfl rfl (by decide) rfl (fun _ => ARun.fieldAddr rfl rfl) ?_
              refine RunA.calmG rfl rfl rfl rfl rfl rfl (by decide) rfl (HSub.refl _) (fun _ hsub => ARun.load rfl rfl (hsub _ _ hBN) g11) ?_
              refine RunA.pureG rfl rfl rfl rfl rfl rfl (by decide) rfl (fun _ => ARun.geqV rfl rfl rfl e2) ?_
              refine RunA.pure rfl rfl rfl rfl rfl (fun _ => ARun.pickT rfl rfl) ?_
              refine RunA.pure rfl rfl rfl rfl rfl (fun _ => ARun.mvV (.inl rfl) rfl) ?_
              refine RunA.passU rfl rfl rfl rfl (by decide) rfl rfl (fun _ _ => (HSub.refl _)) ?_
              refine RunA.passU rfl rfl rfl rfl (by decide) rfl rfl (fun _ _ => (HSub.refl _)) ?_
              refine RunA.passU rfl rfl rfl rfl (by decide) rfl rfl (fun _ _ => (HSub.refl _)) ?_
              refine RunA.passU rfl rfl rfl rfl (by decide) rfl rfl (fun _ _ => (HSub.refl _)) ?_
              refine RunA.passU rfl rfl rfl rfl (by decide) rfl rfl (fun _ _ => (HSub.refl _)) ?_
              refine RunA.passU rfl rfl rfl rfl (by decide) rfl rfl (fun _ _ => (HSub.refl _)) ?_
              refine RunA.passU rfl rfl rfl rfl (by decide) rfl rfl (fun _ _ => (HSub.refl _)) ?_
              refine RunA.pure rfl rfl rfl rfl rfl (fun _ => ARun.pickF rfl rfl) ?_
              refine RunA.pure rfl rfl rfl rfl rfl (fun _ => ARun.mvV (.inl rfl) rfl) ?_
              refine RunA.passU rfl rfl rfl rfl (by decide) rfl rfl (fun _ _ => (HSub.refl _)) ?_
              refine RunA.passU rfl rfl rfl rfl (by decide) rfl rfl (fun _ _ => (HSub.refl _)) ?_
              refine RunA.passU rfl rfl rfl rfl (by decide) rfl rfl (fun _ _ => (HSub.refl _)) ?_
              refine RunA.passU rfl rfl rfl rfl (by decide) rfl rfl (fun _ _ => (HSub.refl _)) ?_
              refine RunA.passU rfl rfl rfl rfl (by decide) rfl rfl (fun _ _ => (HSub.refl _)) ?_
              refine RunA.passU rfl rfl rfl rfl (by decide) rfl rfl (fun _ _ => (HSub.refl _)) ?_
              refine RunA.passU rfl rfl rfl rfl (by decide) rfl rfl (fun _ _ => (HSub.refl _)) ?_
              refine RunA.passU rfl rfl rfl rfl (by decide) rfl rfl (fun _ _ => (HSub.refl _)) ?_
              refine RunA.passU rfl rfl rfl rfl (by decide) rfl rfl (fun _ _ => (HSub.refl _)) ?_
              refine RunA.passU rfl rfl rfl rfl (by decide) rfl rfl (fun _ _ => (HSub.refl _)) ?_
              refine RunA.passU rfl rfl rfl rfl (by decide) rfl rfl (fun _ _ => (HSub.refl _)) ?_
              refine RunA.passU rfl rfl rfl rfl (by decide) rfl rfl (fun _ _ => (HSub.refl _)) ?_
              refine RunA.passU rfl rfl rfl rfl (by decide) rfl rfl (fun _ _ => (HSub.refl _)) ?_
              refine RunA.passU rfl rfl rfl rfl (by decide) rfl rfl (fun _ _ => (HSub.refl _)) ?_
              refine RunA.passU rfl rfl rfl rfl (by decide) rfl rfl (fun _ _ => (HSub.refl _)) ?_
              refine RunA.passU rfl rfl rfl rfl (by decide) rfl rfl (fun _ _ => (HSub.refl _)) ?_
              refine RunA.passU rfl rfl rfl rfl (by decide) rfl rfl (fun _ _ => (HSub.refl _)) ?_
              refine RunA.passU rfl rfl rfl rfl (by decide) rfl rfl (fun _ _ => (HSub.refl _)) ?_
              refine RunA.pure rfl rfl rfl rfl rfl (fun _ => ARun.pickF rfl rfl) ?_
              refine RunA.nil ?_
              (repeat (first | refine AC.seq ?_ | refine AC.block ?_ | refine AC.skip ?_)); refine AC.cond rfl (fun hc => ?_) (fun hc => ?_)
              · cases hc
              have hg0 : guardB l facts x = false := by simp [guardB, e2]
              rw [hno hg0] at hNsame
              rw [hkeep hg0, hNsame rfl]
              (repeat (first | refine AC.seq ?_ | refine AC.block ?_ | refine AC.skip ?_ | refine AC.exit ?_))
              exact ⟨rfl, ⟨rfl, rfl, rfl, rfl, rfl, rfl, rfl, rfl, rfl, rfl, rfl, rfl, trivial⟩, rfl⟩
            have h0 : 0 ≤ x.at_ := by simpa using e2
            cases e3 : decide (x.at_ < facts.length)
            · have h1 : facts[x.at_.toNat]? = none := List.getElem?_eq_none (by have := of_decide_eq_false e3; omega)
              (repeat (first | refine AC.seq ?_ | refine AC.block ?_ | refine AC.skip ?_ | refine AC.exit ?_))
              (repeat (first | refine AC.seq ?_ | refine AC.block ?_ | refine AC.skip ?_))
              refine AC.drawnH [0, 1, 2, 3, 4, 5, 6, 7, 8, 9, 10, 11, 12, 13, 14, 15, 16, 17, 18, 19, 20, 21, 22, 23, 24, 25, 26, 27, 28, 29, 30, 31, 32, 33, 34, 35, 36, 37, 39] [3, 8, 15, 21, 26, 28, 32, 36] [0, 1, 2, 3, 4, 5, 6, 7, 8, 9, 10, 11, 12, 13, 14, 15, 16, 17, 18, 19, 20, 21, 22, 23, 24, 25, 26, 27, 28, 29, 30, 31, 32, 33, 34, 35, 36, 37, 38, 39] mixed (by kernel_rfl) ?_
              refine RunA.pure rfl rfl rfl rfl rfl (fun _ => ARun.mvV (.inl rfl) rfl) ?_
              refine RunA.pure rfl rfl rfl rfl rfl (fun _ => ARun.nilCheck rfl rfl) ?_
              refine RunA.pure rfl rfl rfl rfl rfl (fun _ => ARun.fieldAddr rfl rfl) ?_
              refine RunA.calm rfl rfl rfl rfl rfl (HSub.refl _) (fun _ hsub => ARun.load rfl rfl (hsub _ _ hBN) g9) ?_
              refine RunA.pure rfl rfl rfl rfl rfl (fun _ => ARun.mvV (.inl rfl) rfl) ?_
              refine RunA.pureG rfl rfl rfl rfl rfl rfl (by decide) rfl (fun _ => ARun.mvV (.inl rfl) rfl) ?_
              refine RunA.pureG rfl rfl rfl rfl rfl rfl (by decide) rfl (fun _ => ARun.nilCheck rfl rfl) ?_
              refine RunA.pureG rfl rfl rfl rfl rfl rfl (by decide) rfl (fun _ => ARun.fieldAddr rfl rfl) ?_
              refine RunA.calmG rfl rfl rfl rfl rfl rfl (by decide) rfl (HSub.refl _) (fun _ hsub => ARun.load rfl rfl (hsub _ _ hBN) g11) ?_
              refine RunA.pureG rfl rfl rfl rfl rfl rfl (by decide) rfl (fun _ => ARun.geqV rfl rfl rfl e2) ?_
              refine RunA.pure rfl rfl rfl rfl rfl (fun _ => ARun.pickT rfl rfl) ?_
              refine RunA.pure rfl rfl rfl rfl rfl (fun _ => ARun.mvV (.inl rfl) rfl) ?_
              refine RunA.pureG rfl rfl rfl rfl rfl rfl (by decide) rfl (fun _ => ARun.mvV (.inl rfl) rfl) ?_
              refine RunA.pureG rfl rfl rfl rfl rfl rfl (by decide) rfl (fun _ => ARun.nilCheck rfl rfl) ?_
              refine RunA.pureG rfl rfl rfl rfl rfl rfl (by decide) rfl (fun _ => ARun.fieldAddr rfl rfl) ?_
              refine RunA.calmG rfl rfl rfl rfl rfl rfl (by decide) rfl (HSub.refl _) (fun _ hsub => ARun.load rfl rfl (hsub _ _ hBN) g11) ?_
              refine RunA.pureG rfl rfl rfl rfl rfl rfl (by decide) rfl (fun _ => ARun.mvL (.inl rfl) rfl) ?_
              refine RunA.pureG rfl rfl rfl rfl rfl rfl (by decide) rfl (fun _ => ARun.lenL rfl rfl) ?_
              refine RunA.pureG rfl rfl rfl rfl rfl rfl (by decide) rfl (fun _ => ARun.lssV rfl rfl rfl e3) ?_
              refine RunA.pure rfl rfl rfl rfl rfl (fun _ => ARun.pickT rfl rfl) ?_
              refine RunA.pure rfl rfl rfl rfl rfl (fun _ => ARun.mvV (.inl rfl) rfl) ?_
              refine RunA.passU rfl rfl rfl rfl (by decide) rfl rfl (fun _ _ => (HSub.refl _)) ?_
              refine RunA.passU rfl rfl rfl rfl (by decide) rfl rfl (fun _ _ => (HSub.refl _)) ?_
              refine RunA.passU rfl rfl rfl rfl (by decide) rfl rfl (fun _ _ => (HSub.refl _)) ?_
              refine RunA.passU rfl rfl rfl rfl (by decide) rfl rfl (fun _ _ => (HSub.refl _)) ?_
              refine RunA.passU rfl rfl rfl rfl (by decide) rfl rfl (fun _ _ => (HSub.refl _)) ?_
              refine RunA.passU rfl rfl rfl rfl (by decide) rfl rfl (fun _ _ => (HSub.refl _)) ?_
              refine RunA.passU rfl rfl rfl rfl (by decide) rfl rfl (fun _ _ => (HSub.refl _)) ?_
              refine RunA.passU rfl rfl rfl rfl (by decide) rfl rfl (fun _ _ => (HSub.refl _)) ?_
              refine RunA.passU rfl rfl rfl rfl (by decide) rfl rfl (fun _ _ => (HSub.refl _)) ?_
              refine RunA.passU rfl rfl rfl rfl (by decide) rfl rfl (fun _ _ => (HSub.refl _)) ?_
              refine RunA.passU rfl rfl rfl rfl (by decide) rfl rfl (fun _ _ => (HSub.refl _)) ?_
              refine RunA.passU rfl rfl rfl rfl (by decide) rfl rfl (fun _ _ => (HSub.refl _)) ?_
              refine RunA.passU rfl rfl rfl rfl (by decide) rfl rfl (fun _ _ => (HSub.refl _)) ?_
              refine RunA.passU rfl rfl rfl rfl (by decide) rfl rfl (fun _ _ => (HSub.refl _)) ?_
              refine RunA.passU rfl rfl rfl rfl (by decide) rfl rfl (fun _ _ => (HSub.refl _)) ?_
              refine RunA.passU rfl rfl rfl rfl (by decide) rfl rfl (fun _ _ => (HSub.refl _)) ?_
              refine RunA.passU rfl rfl rfl rfl (by decide) rfl rfl (fun _ _ => (HSub.refl _)) ?_
              refine RunA.passU rfl rfl rfl rfl (by decide) rfl rfl (fun _ _ => (HSub.refl _)) ?_
              refine RunA.pure rfl rfl rfl rfl rfl (fun _ => ARun.pickF rfl rfl) ?_
              refine RunA.nil ?_
              (repeat (first | refine AC.seq ?_ | refine AC.block ?_ | refine AC.skip ?_)); refine AC.cond rfl (fun hc => ?_) (fun hc => ?_)
              · cases hc
              have hg0 : guardB l facts x = false := by simp [guardB, h1]
              rw [hno hg0] at hNsame
              rw [hkeep hg0, hNsame rfl]
              (repeat (first | refine AC.seq ?_ | refine AC.block ?_ | refine AC.skip ?_ | refine AC.exit ?_))
              exact ⟨rfl, ⟨rfl, rfl, rfl, rfl, rfl, rfl, rfl, rfl, rfl, rfl, rfl, rfl, trivial⟩, rfl⟩
            have h1 : x.at_ < facts.length := by simpa using e3
            have h2 : x.at_.toNat < facts.length := by omega
            have h3 : facts[x.at_.toNat]? = some facts[x.at_.toNat] := List.getElem?_eq_getElem h2
            have gF : rdc (facts.flatMap eFact) (x.at_.toNat * 4) 4 = some (eFact facts[x.at_.toNat]) := rdc_flatMap eFact_len h2
            generalize facts[x.at_.toNat] = fa at *
            have hval : guardB l facts x = provB l fa x.size (decide (x.op = 6)) := by
              unfold guardB
              rw [h3, e1, e2]; simp [hop]
            have keyV : ∀ h1, Sp Try.prog 16 [.agg (eLay l), .agg (eFact fa), eI x.size, eB (decide (x.op = 6))] h1 (fun r h' => r = eB (guardB l facts x) ∧ h' = h1) := fun h1 => by
              rw [hval]; exact Proves_spec l fa x.size _ h1 hm
            (repeat (first | refine AC.seq ?_ | refine AC.block ?_ | refine AC.skip ?_ | refine AC.exit ?_))
            (repeat (first | refine AC.seq ?_ | refine AC.block ?_ | refine AC.skip ?_))
            refine AC.drawnH [0, 1, 2, 3, 4, 5, 6, 7, 8, 9, 10, 11, 12, 13, 14, 15, 16, 17, 18, 19, 20, 21, 22, 23, 24, 25, 26, 27, 28, 29, 30, 31, 32, 33, 34, 35, 36, 37, 39] [3, 8, 15, 21, 26, 28, 32, 36] [0, 1, 2, 3, 4, 5, 6, 7, 8, 9, 10, 11, 12, 13, 14, 15, 16, 17, 18, 19, 20, 21, 22, 23, 24, 25, 26, 27, 28, 29, 30, 31, 32, 33, 34, 35, 36, 37, 38, 39] mixed (by kernel_rfl) ?_
            refine RunA.pure rfl rfl rfl rfl rfl (fun _ => ARun.mvV (.inl rfl) rfl) ?_
            refine RunA.pure rfl rfl rfl rfl rfl (fun _ => ARun.nilCheck rfl rfl) ?_
            refine RunA.pure rfl rfl rfl rfl rfl (fun _ => ARun.fieldAddr rfl rfl) ?_
            refine RunA.calm rfl rfl rfl rfl rfl (HSub.refl _) (fun _ hsub => ARun.load rfl rfl (hsub _ _ hBN) g9) ?_
            refine RunA.pure rfl rfl rfl rfl rfl (fun _ => ARun.mvV (.inl rfl) rfl) ?_
            refine RunA.pureG rfl rfl rfl rfl rfl rfl (by decide) rfl (fun _ => ARun.mvV (.inl rfl) rfl) ?_
            refine RunA.pureG rfl rfl rfl rfl rfl rfl (by decide) rfl (fun _ => ARun.nilCheck rfl rfl) ?_
            refine RunA.pureG rfl rfl rfl rfl rfl rfl (by decide) rfl (fun _ => ARun.fieldAddr rfl rfl) ?_
            refine RunA.calmG rfl rfl rfl rfl rfl rfl (by decide) rfl (HSub.refl _) (fun _ hsub => ARun.load rfl rfl (hsub _ _ hBN) g11) ?_
            refine RunA.pureG rfl rfl rfl rfl rfl rfl (by decide) rfl (fun _ => ARun.geqV rfl rfl rfl e2) ?_
            refine RunA.pure rfl rfl rfl rfl rfl (fun _ => ARun.pickT rfl rfl) ?_
            refine RunA.pure rfl rfl rfl rfl rfl (fun _ => ARun.mvV (.inl rfl) rfl) ?_
            refine RunA.pureG rfl rfl rfl rfl rfl rfl (by decide) rfl (fun _ => ARun.mvV (.inl rfl) rfl) ?_
            refine RunA.pureG rfl rfl rfl rfl rfl rfl (by decide) rfl (fun _ => ARun.nilCheck rfl rfl) ?_
            refine RunA.pureG rfl rfl rfl rfl rfl rfl (by decide) rfl (fun _ => ARun.fieldAddr rfl rfl) ?_
            refine RunA.calmG rfl rfl rfl rfl rfl rfl (by decide) rfl (HSub.refl _) (fun _ hsub => ARun.load rfl rfl (hsub _ _ hBN) g11) ?_
            refine RunA.pureG rfl rfl rfl rfl rfl rfl (by decide) rfl (fun _ => ARun.mvL (.inl rfl) rfl) ?_
            refine RunA.pureG rfl rfl rfl rfl rfl rfl (by decide) rfl (fun _ => ARun.lenL rfl rfl) ?_
            refine RunA.pureG rfl rfl rfl rfl rfl rfl (by decide) rfl (fun _ => ARun.lssV rfl rfl rfl e3) ?_
            refine RunA.pure rfl rfl rfl rfl rfl (fun _ => ARun.pickT rfl rfl) ?_
            refine RunA.pure rfl rfl rfl rfl rfl (fun _ => ARun.mvV (.inl rfl) rfl) ?_
            refine RunA.calmG rfl rfl rfl rfl rfl rfl (by decide) rfl (HSub.refl _) (fun _ hsub => ARun.loadNL rfl rfl rfl) ?_
            refine RunA.pureG rfl rfl rfl rfl rfl rfl (by decide) rfl (fun _ => ARun.mvL (.inl rfl) rfl) ?_
            refine RunA.pureG rfl rfl rfl rfl rfl rfl (by decide) rfl (fun _ => ARun.mvV (.inl rfl) rfl) ?_
            refine RunA.pureG rfl rfl rfl rfl rfl rfl (by decide) rfl (fun _ => ARun.nilCheck rfl rfl) ?_
            refine RunA.pureG rfl rfl rfl rfl rfl rfl (by decide) rfl (fun _ => ARun.fieldAddr rfl rfl) ?_
            refine RunA.calmG rfl rfl rfl rfl rfl rfl (by decide) rfl (HSub.refl _) (fun _ hsub => ARun.load rfl rfl (hsub _ _ hBN) g11) ?_
            refine RunA.pureG rfl rfl rfl rfl rfl rfl (by decide) rfl (fun _ => ARun.indexAddrL rfl rfl rfl (by omega) (by omega)) ?_
            refine RunA.calmG rfl rfl rfl rfl rfl rfl (by decide) rfl (HSub.refl _) (fun _ hsub => ARun.loadNL rfl rfl gF) ?_
            refine RunA.pureG rfl rfl rfl rfl rfl rfl (by decide) rfl (fun _ => ARun.mvV (.inl rfl) rfl) ?_
            refine RunA.pureG rfl rfl rfl rfl rfl rfl (by decide) rfl (fun _ => ARun.nilCheck rfl rfl) ?_
            refine RunA.pureG rfl rfl rfl rfl rfl rfl (by decide) rfl (fun _ => ARun.fieldAddr rfl rfl) ?_
            refine RunA.calmG rfl rfl rfl rfl rfl rfl (by decide) rfl (HSub.refl _) (fun _ hsub => ARun.load rfl rfl (hsub _ _ hBN) g7) ?_
            refine RunA.pureG rfl rfl rfl rfl rfl rfl (by decide) rfl (fun _ => ARun.mvV (.inl rfl) rfl) ?_
            refine RunA.pureG rfl rfl rfl rfl rfl rfl (by decide) rfl (fun _ => ARun.nilCheck rfl rfl) ?_
            refine RunA.pureG rfl rfl rfl rfl rfl rfl (by decide) rfl (fun _ => ARun.fieldAddr rfl rfl) ?_
            refine RunA.calmG rfl rfl rfl rfl rfl rfl (by decide) rfl (HSub.refl _) (fun _ hsub => ARun.load rfl rfl (hsub _ _ hBN) g0) ?_
            refine RunA.pureG rfl rfl rfl rfl rfl rfl (by decide) rfl (fun _ => ARun.eql rfl rfl rfl) ?_
            refine RunA.opG rfl rfl rfl rfl rfl (by decide) rfl ?_
            refine AOp.call_ rfl rfl ((keyV _).mono ?_)
            rintro _ _ ⟨rfl, rfl⟩; refine ⟨fun _ q => q, ?_⟩
            refine RunA.pure rfl rfl rfl rfl rfl (fun _ => ARun.pickT rfl rfl) ?_
            refine RunA.nil ?_
            (repeat (first | refine AC.seq ?_ | refine AC.block ?_ | refine AC.skip ?_)); refine AC.cond rfl (fun hc => ?_) (fun hc => ?_)
            · have hgt : guardB l facts x = true := hc
              have hst := hsetN false (hyes hgt)
              rw [hgt] at hgn
              (repeat (first | refine AC.seq ?_ | refine AC.block ?_ | refine AC.skip ?_))
              refine AC.region ?_
              refine AOps.step rfl rfl ?_
              refine AOp.of_run (ARun.mvV (.inl rfl) rfl) ?_
              refine AOps.step rfl rfl ?_
              refine AOp.of_run (ARun.nilCheck rfl rfl) ?_
              refine AOps.step rfl rfl ?_
              refine AOp.of_run (ARun.fieldAddr rfl rfl) ?_
              refine AOps.step rfl rfl (AOp.store1 rfl rfl hBN rfl (by rw [hflN, hNl]; show 0 + (k : Int).toNat * 12 + 9 < _; omega) ?_)
              refine AOps.nil ?_
              rw [hset_hset]
              (repeat (first | refine AC.seq ?_ | refine AC.block ?_ | refine AC.skip ?_))
              refine AC.region ?_
              refine AOps.step rfl rfl ?_
              refine AOp.of_run (ARun.mvV (.inl rfl) rfl) ?_
              refine AOps.step rfl rfl ?_
              refine AOp.of_run (ARun.add rfl rfl rfl) ?_
              refine AOps.step rfl rfl ?_
              refine AOp.of_run (ARun.mvV (.inr rfl) rfl) ?_
              refine AOps.nil ?_
              (repeat (first | refine AC.seq ?_ | refine AC.block ?_ | refine AC.skip ?_ | refine AC.exit ?_))
              exact ⟨rfl, ⟨rfl, rfl, rfl, eI_wrap (by omega) (by omega) (by simp at hgn; omega), rfl, rfl, rfl, rfl, rfl, rfl, rfl, rfl, trivial⟩, by rw [← hst]⟩
            · have hg0 : guardB l facts x = false := by exact hc
              rw [hno hg0] at hNsame
              rw [hkeep hg0, hNsame rfl]
              (repeat (first | refine AC.seq ?_ | refine AC.block ?_ | refine AC.skip ?_ | refine AC.exit ?_))
              exact ⟨rfl, ⟨rfl, rfl, rfl, rfl, rfl, rfl, rfl, rfl, rfl, rfl, rfl, rfl, trivial⟩, rfl⟩
          · have hop6 : x.op ≠ 6 := by simpa using hc
            have hg0 : guardB l facts x = false := by simp [guardB, hop5, hop6]
            rw [hno hg0] at hNsame
            rw [hkeep hg0, hNsame rfl]
            (repeat (first | refine AC.seq ?_ | refine AC.block ?_ | refine AC.skip ?_ | refine AC.exit ?_))
            exact ⟨rfl, ⟨rfl, rfl, rfl, rfl, rfl, rfl, rfl, rfl, rfl, rfl, rfl, rfl, trivial⟩, rfl⟩
      rintro _ τ _ ⟨rfl, hs, rfl⟩
      obtain ⟨t4, rfl⟩ := hs.open_
      (repeat (first | refine AC.seq ?_ | refine AC.block ?_ | refine AC.skip ?_))
      refine AC.region ?_
      refine AOps.step rfl rfl ?_
      refine AOp.of_run (ARun.add rfl rfl rfl) ?_
      refine AOps.step rfl rfl ?_
      refine AOp.of_run (ARun.mvV (.inl rfl) rfl) ?_
      refine AOps.nil ?_
      exact ⟨_, by omega, k + 1, hlt3, rfl, ⟨rfl, rfl, rfl, rfl, rfl, rfl, rfl, rfl, rfl, rfl, rfl, eI_wrap (by omega) (by omega) (by omega), trivial⟩, hclose _ (mixL_len _ _ _)⟩
    have hge : k = p.nodes.length := by simp at hc; omega
    subst hge
    rw [mixL_all] at hoK
    rw [take_all (Nat.le_refl _)]
    (repeat (first | refine AC.seq ?_ | refine AC.block ?_ | refine AC.skip ?_ | refine AC.exit ?_))
    refine AC.le (hoK.freezeIn (g := b13) (i := 2) gQ rfl) ?_
    have hfrz : (((ePart p).set 2 (AVal.v (.slice an p.nodes.length cn))).set 2 (.ls p.nodes.length ((p.nodes.map (freeN l facts)).flatMap eNode))) = ePart (freeP l facts p) := by
      rw [show p.nodes.length = (p.nodes.map (freeN l facts)).length by simp]; rfl
    rw [hfrz, hHQ, hset_hset]
    have k13 : Ab.hset (HP ML) b13 (some (.cells (ePart (freeP l facts p)) 60 10)) b13 = some (.cells (ePart (freeP l facts p)) 60 10) := hset_same _ _ _
    have kG : Ab.hset (HP ML) b13 (some (.cells (ePart (freeP l facts p)) 60 10)) bg = some (.cells [.v (.slice (some ⟨bp, 0, none⟩) f.parts.length cx), eI f.values] 29 2) := hset_skip hbg13.symm (gG _)
    have kP : Ab.hset (HP ML) b13 (some (.cells (ePart (freeP l facts p)) 60 10)) bp = some (.cells (ML.flatMap ePart) 60 (cx * 10)) := hset_skip hbp13.symm (gP _)
    (repeat (first | refine AC.seq ?_ | refine AC.block ?_ | refine AC.skip ?_))
    refine AC.region ?_
    refine AOps.step rfl rfl ?_
    refine AOp.of_run (ARun.fieldAddr rfl rfl) ?_
    refine AOps.step rfl rfl (AOp.of_run (ARun.load rfl rfl kG rfl) ?_)
    refine AOps.step rfl rfl ?_
    refine AOp.of_run (ARun.mvV (.inl rfl) rfl) ?_
    refine AOps.step rfl rfl (AOp.of_run (ARun.loadN rfl rfl k13 rfl) ?_)
    refine AOps.step rfl rfl ?_
    refine AOp.of_run (ARun.indexAddr rfl rfl rfl (by omega) (by omega)) ?_
    refine AOps.step rfl rfl (AOp.store (xs := ePart (freeP l facts p)) rfl rfl kP rfl ?_ (by rfl) (by rw [hfl]; show 0 + (i : Int).toNat * 10 + 10 ≤ _; omega))
    refine AOps.nil ?_
    have hlput := lput_flatMap ePart_len (l := ML) (i := i) (by omega) (freeP l facts p)
    rw [show 0 + (i : Int).toNat * 10 = i * 10 by rw [Int.toNat_natCast, Nat.zero_add], hlput, hset, hset_comm _ _ _ hbp13, gput]
    refine AC.le (Le.sub (h' := HP (mixL (freeP l facts) f.parts (i + 1))) (HSub.add _ ?_)) ?_
    · rw [← gput ML, hset_ne _ _ hbp13]; exact hb13
    (repeat (first | refine AC.seq ?_ | refine AC.block ?_ | refine AC.skip ?_ | refine AC.exit ?_))
    (repeat (first | refine AC.seq ?_ | refine AC.block ?_ | refine AC.skip ?_))
    refine AC.region ?_
    refine AOps.step rfl rfl ?_
    refine AOp.of_run (ARun.add rfl rfl rfl) ?_
    refine AOps.step rfl rfl ?_
    refine AOp.of_run (ARun.mvV (.inl rfl) rfl) ?_
    refine AOps.nil ?_
    have hgl2 := goneN_le l facts p.nodes
    exact ⟨_, by omega, i + 1, hlt, rfl, ⟨rfl, rfl, rfl, by rw [hgone]; rfl, rfl, rfl, rfl, eI_wrap (by omega) (by omega) (by omega), trivial⟩, rfl⟩
  have hge : i = f.parts.length := by simp at hc; omega
  subst hge
  rw [mixL_all, take_all (Nat.le_refl _)]
  have k6 : HP (f.parts.map (freeP l facts)) b6 = some (.cells [nilS, eI 0] 29 2) := by rw [hHP]; exact hset_skip hb6p (hset_skip hb6g hB6)
  (repeat (first | refine AC.seq ?_ | refine AC.block ?_ | refine AC.skip ?_ | refine AC.exit ?_))
  (repeat (first | refine AC.seq ?_ | refine AC.block ?_ | refine AC.skip ?_))
  refine AC.region ?_
  refine AOps.step rfl rfl (AOp.of_run (ARun.loadN rfl rfl (gG _) rfl) ?_)
  refine AOps.step rfl rfl ?_
  refine AOp.of_run (ARun.mvV (.inl rfl) rfl) ?_
  refine AOps.step rfl rfl (AOp.store rfl rfl k6 rfl ?_)
  refine AOps.step rfl rfl ?_
  refine AOp.of_run (ARun.mvV (.inr rfl) rfl) ?_
  refine AOps.step rfl rfl ?_
  refine AOp.of_run (ARun.mvV (.inr rfl) rfl) ?_
  refine AOps.nil ?_
  have hheap : Ab.hset (HP (f.parts.map (freeP l facts))) b6 (some (.cells [.v (.slice (some ⟨bp, 0, none⟩) f.parts.length cx), eI f.values] 29 2)) =
      Ab.hset (Ab.hset (Ab.hset h b6 (some (.cells [.v (.slice (some ⟨bp, 0, none⟩) f.parts.length cx), eI f.values] 29 2))) bg (some (.cells [.v (.slice (some ⟨bp, 0, none⟩) f.parts.length cx), eI f.values] 29 2))) bp (some (.cells ((f.parts.map (freeP l facts)).flatMap ePart) 60 (cx * 10))) := by
    rw [hHP, hset_comm _ _ _ hb6p.symm, hset_comm _ _ _ hb6g.symm, hbase6]
  change thenA _ _ Exit.normal _ (Ab.hset (HP (f.parts.map (freeP l facts))) b6 (some (.cells [.v (.slice (some ⟨bp, 0, none⟩) f.parts.length cx), eI f.values] 29 2)))
  rw [hheap]
  have hoF : Own (Ab.hset (Ab.hset h b6 (some (.cells [.v (.slice (some ⟨bp, 0, none⟩) f.parts.length cx), eI f.values] 29 2))) bg (some (.cells [.v (.slice (some ⟨bp, 0, none⟩) f.parts.length cx), eI f.values] 29 2))) 60 10 f.parts.length ((f.parts.map (freeP l facts)).flatMap ePart) (.v (.slice (some ⟨bp, 0, none⟩) f.parts.length cx))
      (Ab.hset (Ab.hset (Ab.hset h b6 (some (.cells [.v (.slice (some ⟨bp, 0, none⟩) f.parts.length cx), eI f.values] 29 2))) bg (some (.cells [.v (.slice (some ⟨bp, 0, none⟩) f.parts.length cx), eI f.values] 29 2))) bp (some (.cells ((f.parts.map (freeP l facts)).flatMap ePart) 60 (cx * 10)))) :=
    ⟨by rw [flatMap_length ePart 10 ePart_len]; simp, .inr ⟨bp, cx, rfl, by
      rw [hset_ne _ _ hbpg, hset_ne _ _ hb6p.symm]
      have := hbp
      rw [hset_ne _ _ hbpg, ← h6e, hset_ne _ _ hb6p.symm] at this; exact this, hnc, hcm, rfl⟩⟩
  have hb6' : h b6 = none := hb6
  have hbg' : Ab.hset h b6 (some (.cells ([AVal.v (.slice (some ⟨bp, 0, none⟩) f.parts.length cx), eI f.values].set 0 (.ls f.parts.length ((f.parts.map (freeP l facts)).flatMap ePart))) 29 2)) bg = none := by
    rw [hset_ne _ _ hb6g.symm]
    have := hbg
    rw [← h6e, hset_ne _ _ hb6g.symm] at this; exact this
  refine AC.le (hoF.freezeIn (g := b6) (i := 0) (hset_skip hb6g (hset_same _ _ _)) rfl) ?_
  rw [hset_comm _ _ _ hb6g.symm, hset_hset]
  refine AC.le (Le.sub (HSub.add _ hbg')) ?_
  refine AC.ret (ARes.le (Le.freezeVar (d := 6) rfl (hset_same _ _ _)) (ARes.three rfl (RV.cellNL rfl rfl) RV.tmp RV.tmp ⟨.inl ⟨hchk, ?_⟩, by rw [hset_hset, hset_id hb6']⟩))
  show AVal.tup [.agg [.ls f.parts.length ((f.parts.map (freeP l facts)).flatMap ePart), eI f.values], _, _] = _
  rw [show f.parts.length = (f.parts.map (freeP l facts)).length by simp]; rfl
end Go.Proofs.Ytilanageangegaa

/- Walks of the document's answer for layer 16 (5): Node. MADE BY wip/gen_node.py. -/
set_option linter.unusedVariables false
namespace Go.Proofs.Ytilanageangegaa
open Go.Ab

def nodeB (a b : DNode) : Bool := (((((((((((decide (a.op = b.op) && decide (a.id = b.id)) && decide (a.alu = b.alu)) && (a.wide == b.wide)) && decide (a.a = b.a)) && decide (a.b = b.b)) && decide (a.imm = b.imm)) && decide (a.size = b.size)) && decide (a.off = b.off)) && (a.guard == b.guard)) && decide (a.at_ = b.at_)) && decide (a.args = b.args))

set_option maxRecDepth 10000 in
theorem NodeR_spec (a b : DNode) (h : AHeap) (ha : a.args.length ≤ 1000000000) : Sp Try.prog 40 [.agg (eNode a), .agg (eNode b)] h (fun r h' => r = eB (nodeB a b) ∧ h' = h) := by
  refine Sp.of Try.func40 rfl rfl (by show 2 ≤ 87; decide) ?_
  (repeat (first | refine AC.seq ?_ | refine AC.block ?_ | refine AC.skip ?_))
  refine AC.region ?_
  refine AOps.step rfl rfl ?_
  refine AOp.boxL rfl rfl ?_
  refine AOps.step rfl rfl ?_
  refine AOp.boxL rfl rfl ?_
  refine AOps.step rfl rfl ?_
  refine AOp.of_run (ARun.mvV (.inr rfl) rfl) ?_
  refine AOps.nil ?_
  (repeat (first | refine AC.seq ?_ | refine AC.block ?_ | refine AC.skip ?_ | refine AC.exit ?_))
  refine AC.mono (Q := fun ex τ h2 => ex = .normal ∧ h2 = h ∧ τ 4 = eB (nodeB a b)) ?_ ?_
  · unfold nodeB
    (repeat (first | refine AC.seq ?_ | refine AC.block ?_ | refine AC.skip ?_))
    refine AC.region ?_
    refine AOps.step rfl rfl ?_
    refine AOp.of_run (ARun.fieldAddrL rfl rfl) ?_
    refine AOps.step rfl rfl ?_
    refine AOp.of_run (ARun.loadL rfl rfl rfl) ?_
    refine AOps.step rfl rfl ?_
    refine AOp.of_run (ARun.fieldAddrL rfl rfl) ?_
    refine AOps.step rfl rfl ?_
    refine AOp.of_run (ARun.loadL rfl rfl rfl) ?_
    refine AOps.step rfl rfl ?_
    refine AOp.of_run (ARun.eql rfl rfl rfl) ?_
    cases g0 : decide (a.op = b.op)
    · refine AOps.step rfl rfl ?_
      refine AOp.of_run (ARun.mvV (.inl rfl) rfl) ?_
      refine AOps.passU rfl rfl (by decide) rfl rfl rfl ?_
      refine AOps.passU rfl rfl (by decide) rfl rfl rfl ?_
      refine AOps.passU rfl rfl (by decide) rfl rfl rfl ?_
      refine AOps.passU rfl rfl (by decide) rfl rfl rfl ?_
      refine AOps.passU rfl rfl (by decide) rfl rfl rfl ?_
      refine AOps.step rfl rfl (AOp.of_run (ARun.pickF rfl rfl) ?_)
      refine AOps.step rfl rfl ?_
      refine AOp.of_run (ARun.mvV (.inl rfl) rfl) ?_
      refine AOps.passU rfl rfl (by decide) rfl rfl rfl ?_
      refine AOps.passU rfl rfl (by decide) rfl rfl rfl ?_
      refine AOps.passU rfl rfl (by decide) rfl rfl rfl ?_
      refine AOps.passU rfl rfl (by decide) rfl rfl rfl ?_
      refine AOps.passU rfl rfl (by decide) rfl rfl rfl ?_
      refine AOps.step rfl rfl (AOp.of_run (ARun.pickF rfl rfl) ?_)
      refine AOps.step rfl rfl ?_
      refine AOp.of_run (ARun.mvV (.inl rfl) rfl) ?_
      refine AOps.passU rfl rfl (by decide) rfl rfl rfl ?_
      refine AOps.passU rfl rfl (by decide) rfl rfl rfl ?_
      refine AOps.passU rfl rfl (by decide) rfl rfl rfl ?_
      refine AOps.passU rfl rfl (by decide) rfl rfl rfl ?_
      refine AOps.passU rfl rfl (by decide) rfl rfl rfl ?_
      refine AOps.step rfl rfl (AOp.of_run (ARun.pickF rfl rfl) ?_)
      refine AOps.step rfl rfl ?_
      refine AOp.of_run (ARun.mvV (.inl rfl) rfl) ?_
      refine AOps.passU rfl rfl (by decide) rfl rfl rfl ?_
      refine AOps.passU rfl rfl (by decide) rfl rfl rfl ?_
      refine AOps.passU rfl rfl (by decide) rfl rfl rfl ?_
      refine AOps.passU rfl rfl (by decide) rfl rfl rfl ?_
      refine AOps.passU rfl rfl (by decide) rfl rfl rfl ?_
      refine AOps.step rfl rfl (AOp.of_run (ARun.pickF rfl rfl) ?_)
      refine AOps.step rfl rfl ?_
      refine AOp.of_run (ARun.mvV (.inl rfl) rfl) ?_
      refine AOps.passU rfl rfl (by decide) rfl rfl rfl ?_
      refine AOps.passU rfl rfl (by decide) rfl rfl rfl ?_
      refine AOps.passU rfl rfl (by decide) rfl rfl rfl ?_
      refine AOps.passU rfl rfl (by decide) rfl rfl rfl ?_
      refine AOps.passU rfl rfl (by decide) rfl rfl rfl ?_
      refine AOps.step rfl rfl (AOp.of_run (ARun.pickF rfl rfl) ?_)
      refine AOps.step rfl rfl ?_
      refine AOp.of_run (ARun.mvV (.inl rfl) rfl) ?_
      refine AOps.passU rfl rfl (by decide) rfl rfl rfl ?_
      refine AOps.passU rfl rfl (by decide) rfl rfl rfl ?_
      refine AOps.passU rfl rfl (by decide) rfl rfl rfl ?_
      refine AOps.passU rfl rfl (by decide) rfl rfl rfl ?_
      refine AOps.passU rfl rfl (by decide) rfl rfl rfl ?_
      refine AOps.step rfl rfl (AOp.of_run (ARun.pickF rfl rfl) ?_)
      refine AOps.step rfl rfl ?_
      refine AOp.of_run (ARun.mvV (.inl rfl) rfl) ?_
      refine AOps.passU rfl rfl (by decide) rfl rfl rfl ?_
      refine AOps.passU rfl rfl (by decide) rfl rfl rfl ?_
      refine AOps.passU rfl rfl (by decide) rfl rfl rfl ?_
      refine AOps.passU rfl rfl (by decide) rfl rfl rfl ?_
      refine AOps.passU rfl rfl (by decide) rfl rfl rfl ?_
      refine AOps.step rfl rfl (AOp.of_run (ARun.pickF rfl rfl) ?_)
      refine AOps.step rfl rfl ?_
      refine AOp.of_run (ARun.mvV (.inl rfl) rfl) ?_
      refine AOps.passU rfl rfl (by decide) rfl rfl rfl ?_
      refine AOps.passU rfl rfl (by decide) rfl rfl rfl ?_
      refine AOps.passU rfl rfl (by decide) rfl rfl rfl ?_
      refine AOps.passU rfl rfl (by decide) rfl rfl rfl ?_
      refine AOps.passU rfl rfl (by decide) rfl rfl rfl ?_
      refine AOps.step rfl rfl (AOp.of_run (ARun.pickF rfl rfl) ?_)
      refine AOps.step rfl rfl ?_
      refine AOp.of_run (ARun.mvV (.inl rfl) rfl) ?_
      refine AOps.passU rfl rfl (by decide) rfl rfl rfl ?_
      refine AOps.passU rfl rfl (by decide) rfl rfl rfl ?_
      refine AOps.passU rfl rfl (by decide) rfl rfl rfl ?_
      refine AOps.passU rfl rfl (by decide) rfl rfl rfl ?_
      refine AOps.passU rfl rfl (by decide) rfl rfl rfl ?_
      refine AOps.step rfl rfl (AOp.of_run (ARun.pickF rfl rfl) ?_)
      refine AOps.step rfl rfl ?_
      refine AOp.of_run (ARun.mvV (.inl rfl) rfl) ?_
      refine AOps.passU rfl rfl (by decide) rfl rfl rfl ?_
      refine AOps.passU rfl rfl (by decide) rfl rfl rfl ?_
      refine AOps.passU rfl rfl (by decide) rfl rfl rfl ?_
      refine AOps.passU rfl rfl (by decide) rfl rfl rfl ?_
      refine AOps.passU rfl rfl (by decide) rfl rfl rfl ?_
      refine AOps.step rfl rfl (AOp.of_run (ARun.pickF rfl rfl) ?_)
      refine AOps.step rfl rfl ?_
      refine AOp.of_run (ARun.mvV (.inl rfl) rfl) ?_
      refine AOps.passU rfl rfl (by decide) rfl rfl rfl ?_
      refine AOps.passU rfl rfl (by decide) rfl rfl rfl ?_
      refine AOps.passU rfl rfl (by decide) rfl rfl rfl ?_
      refine AOps.passU rfl rfl (by decide) rfl rfl rfl ?_
      refine AOps.passU rfl rfl (by decide) rfl rfl rfl ?_
      refine AOps.step rfl rfl (AOp.of_run (ARun.pickF rfl rfl) ?_)
      refine AOps.step rfl rfl ?_
      refine AOp.of_run (ARun.mvV (.inr rfl) rfl) ?_
      refine AOps.nil ?_
      exact ⟨rfl, rfl, rfl⟩
    refine AOps.step rfl rfl ?_
    refine AOp.of_run (ARun.mvV (.inl rfl) rfl) ?_
    refine AOps.want rfl rfl (by decide) rfl ?_
    refine AOps.step rfl rfl ?_
    refine AOp.of_run (ARun.fieldAddrL rfl rfl) ?_
    refine AOps.want rfl rfl (by decide) rfl ?_
    refine AOps.step rfl rfl ?_
    refine AOp.of_run (ARun.loadL rfl rfl rfl) ?_
    refine AOps.want rfl rfl (by decide) rfl ?_
    refine AOps.step rfl rfl ?_
    refine AOp.of_run (ARun.fieldAddrL rfl rfl) ?_
    refine AOps.want rfl rfl (by decide) rfl ?_
    refine AOps.step rfl rfl ?_
    refine AOp.of_run (ARun.loadL rfl rfl rfl) ?_
    refine AOps.want rfl rfl (by decide) rfl ?_
    refine AOps.step rfl rfl ?_
    refine AOp.of_run (ARun.eql rfl rfl rfl) ?_
    refine AOps.step rfl rfl (AOp.of_run (ARun.pickT rfl rfl) ?_)
    cases g1 : decide (a.id = b.id)
    · refine AOps.step rfl rfl ?_
      refine AOp.of_run (ARun.mvV (.inl rfl) rfl) ?_
      refine AOps.passU rfl rfl (by decide) rfl rfl rfl ?_
      refine AOps.passU rfl rfl (by decide) rfl rfl rfl ?_
      refine AOps.passU rfl rfl (by decide) rfl rfl rfl ?_
      refine AOps.passU rfl rfl (by decide) rfl rfl rfl ?_
      refine AOps.passU rfl rfl (by decide) rfl rfl rfl ?_
      refine AOps.step rfl rfl (AOp.of_run (ARun.pickF rfl rfl) ?_)
      refine AOps.step rfl rfl ?_
      refine AOp.of_run (ARun.mvV (.inl rfl) rfl) ?_
      refine AOps.passU rfl rfl (by decide) rfl rfl rfl ?_
      refine AOps.passU rfl rfl (by decide) rfl rfl rfl ?_
      refine AOps.passU rfl rfl (by decide) rfl rfl rfl ?_
      refine AOps.passU rfl rfl (by decide) rfl rfl rfl ?_
      refine AOps.passU rfl rfl (by decide) rfl rfl rfl ?_
      refine AOps.step rfl rfl (AOp.of_run (ARun.pickF rfl rfl) ?_)
      refine AOps.step rfl rfl ?_
      refine AOp.of_run (ARun.mvV (.inl rfl) rfl) ?_
      refine AOps.passU rfl rfl (by decide) rfl rfl rfl ?_
      refine AOps.passU rfl rfl (by decide) rfl rfl rfl ?_
      refine AOps.passU rfl rfl (by decide) rfl rfl rfl ?_
      refine AOps.passU rfl rfl (by decide) rfl rfl rfl ?_
      refine AOps.passU rfl rfl (by decide) rfl rfl rfl ?_
      refine AOps.step rfl rfl (AOp.of_run (ARun.pickF rfl rfl) ?_)
      refine AOps.step rfl rfl ?_
      refine AOp.of_run (ARun.mvV (.inl rfl) rfl) ?_
      refine AOps.passU rfl rfl (by decide) rfl rfl rfl ?_
      refine AOps.passU rfl rfl (by decide) rfl rfl rfl ?_
      refine AOps.passU rfl rfl (by decide) rfl rfl rfl ?_
      refine AOps.passU rfl rfl (by decide) rfl rfl rfl ?_
      refine AOps.passU rfl rfl (by decide) rfl rfl rfl ?_
      refine AOps.step rfl rfl (AOp.of_run (ARun.pickF rfl rfl) ?_)
      refine AOps.step rfl rfl ?_
      refine AOp.of_run (ARun.mvV (.inl rfl) rfl) ?_
      refine AOps.passU rfl rfl (by decide) rfl rfl rfl ?_
      refine AOps.passU rfl rfl (by decide) rfl rfl rfl ?_
      refine AOps.passU rfl rfl (by decide) rfl rfl rfl ?_
      refine AOps.passU rfl rfl (by decide) rfl rfl rfl ?_
      refine AOps.passU rfl rfl (by decide) rfl rfl rfl ?_
      refine AOps.step rfl rfl (AOp.of_run (ARun.pickF rfl rfl) ?_)
      refine AOps.step rfl rfl ?_
      refine AOp.of_run (ARun.mvV (.inl rfl) rfl) ?_
      refine AOps.passU rfl rfl (by decide) rfl rfl rfl ?_
      refine AOps.passU rfl rfl (by decide) rfl rfl rfl ?_
      refine AOps.passU rfl rfl (by decide) rfl rfl rfl ?_
      refine AOps.passU rfl rfl (by decide) rfl rfl rfl ?_
      refine AOps.passU rfl rfl (by decide) rfl rfl rfl ?_
      refine AOps.step rfl rfl (AOp.of_run (ARun.pickF rfl rfl) ?_)
      refine AOps.step rfl rfl ?_
      refine AOp.of_run (ARun.mvV (.inl rfl) rfl) ?_
      refine AOps.passU rfl rfl (by decide) rfl rfl rfl ?_
      refine AOps.passU rfl rfl (by decide) rfl rfl rfl ?_
      refine AOps.passU rfl rfl (by decide) rfl rfl rfl ?_
      refine AOps.passU rfl rfl (by decide) rfl rfl rfl ?_
      refine AOps.passU rfl rfl (by decide) rfl rfl rfl ?_
      refine AOps.step rfl rfl (AOp.of_run (ARun.pickF rfl rfl) ?_)
      refine AOps.step rfl rfl ?_
      refine AOp.of_run (ARun.mvV (.inl rfl) rfl) ?_
      refine AOps.passU rfl rfl (by decide) rfl rfl rfl ?_
      refine AOps.passU rfl rfl (by decide) rfl rfl rfl ?_
      refine AOps.passU rfl rfl (by decide) rfl rfl rfl ?_
      refine AOps.passU rfl rfl (by decide) rfl rfl rfl ?_
      refine AOps.passU rfl rfl (by decide) rfl rfl rfl ?_
      refine AOps.step rfl rfl (AOp.of_run (ARun.pickF rfl rfl) ?_)
      refine AOps.step rfl rfl ?_
      refine AOp.of_run (ARun.mvV (.inl rfl) rfl) ?_
      refine AOps.passU rfl rfl (by decide) rfl rfl rfl ?_
      refine AOps.passU rfl rfl (by decide) rfl rfl rfl ?_
      refine AOps.passU rfl rfl (by decide) rfl rfl rfl ?_
      refine AOps.passU rfl rfl (by decide) rfl rfl rfl ?_
      refine AOps.passU rfl rfl (by decide) rfl rfl rfl ?_
      refine AOps.step rfl rfl (AOp.of_run (ARun.pickF rfl rfl) ?_)
      refine AOps.step rfl rfl ?_
      refine AOp.of_run (ARun.mvV (.inl rfl) rfl) ?_
      refine AOps.passU rfl rfl (by decide) rfl rfl rfl ?_
      refine AOps.passU rfl rfl (by decide) rfl rfl rfl ?_
      refine AOps.passU rfl rfl (by decide) rfl rfl rfl ?_
      refine AOps.passU rfl rfl (by decide) rfl rfl rfl ?_
      refine AOps.passU rfl rfl (by decide) rfl rfl rfl ?_
      refine AOps.step rfl rfl (AOp.of_run (ARun.pickF rfl rfl) ?_)
      refine AOps.step rfl rfl ?_
      refine AOp.of_run (ARun.mvV (.inr rfl) rfl) ?_
      refine AOps.nil ?_
      exact ⟨rfl, rfl, rfl⟩
    refine AOps.step rfl rfl ?_
    refine AOp.of_run (ARun.mvV (.inl rfl) rfl) ?_
    refine AOps.want rfl rfl (by decide) rfl ?_
    refine AOps.step rfl rfl ?_
    refine AOp.of_run (ARun.fieldAddrL rfl rfl) ?_
    refine AOps.want rfl rfl (by decide) rfl ?_
    refine AOps.step rfl rfl ?_
    refine AOp.of_run (ARun.loadL rfl rfl rfl) ?_
    refine AOps.want rfl rfl (by decide) rfl ?_
    refine AOps.step rfl rfl ?_
    refine AOp.of_run (ARun.fieldAddrL rfl rfl) ?_
    refine AOps.want rfl rfl (by decide) rfl ?_
    refine AOps.step rfl rfl ?_
    refine AOp.of_run (ARun.loadL rfl rfl rfl) ?_
    refine AOps.want rfl rfl (by decide) rfl ?_
    refine AOps.step rfl rfl ?_
    refine AOp.of_run (ARun.eql rfl rfl rfl) ?_
    refine AOps.step rfl rfl (AOp.of_run (ARun.pickT rfl rfl) ?_)
    cases g2 : decide (a.alu = b.alu)
    · refine AOps.step rfl rfl ?_
      refine AOp.of_run (ARun.mvV (.inl rfl) rfl) ?_
      refine AOps.passU rfl rfl (by decide) rfl rfl rfl ?_
      refine AOps.passU rfl rfl (by decide) rfl rfl rfl ?_
      refine AOps.passU rfl rfl (by decide) rfl rfl rfl ?_
      refine AOps.passU rfl rfl (by decide) rfl rfl rfl ?_
      refine AOps.passU rfl rfl (by decide) rfl rfl rfl ?_
      refine AOps.step rfl rfl (AOp.of_run (ARun.pickF rfl rfl) ?_)
      refine AOps.step rfl rfl ?_
      refine AOp.of_run (ARun.mvV (.inl rfl) rfl) ?_
      refine AOps.passU rfl rfl (by decide) rfl rfl rfl ?_
      refine AOps.passU rfl rfl (by decide) rfl rfl rfl ?_
      refine AOps.passU rfl rfl (by decide) rfl rfl rfl ?_
      refine AOps.passU rfl rfl (by decide) rfl rfl rfl ?_
      refine AOps.passU rfl rfl (by decide) rfl rfl rfl ?_
      refine AOps.step rfl rfl (AOp.of_run (ARun.pickF rfl rfl) ?_)
      refine AOps.step rfl rfl ?_
      refine AOp.of_run (ARun.mvV (.inl rfl) rfl) ?_
      refine AOps.passU rfl rfl (by decide) rfl rfl rfl ?_
      refine AOps.passU rfl rfl (by decide) rfl rfl rfl ?_
      refine AOps.passU rfl rfl (by decide) rfl rfl rfl ?_
      refine AOps.passU rfl rfl (by decide) rfl rfl rfl ?_
      refine AOps.passU rfl rfl (by decide) rfl rfl rfl ?_
      refine AOps.step rfl rfl (AOp.of_run (ARun.pickF rfl rfl) ?_)
      refine AOps.step rfl rfl ?_
      refine AOp.of_run (ARun.mvV (.inl rfl) rfl) ?_
      refine AOps.passU rfl rfl (by decide) rfl rfl rfl ?_
      refine AOps.passU rfl rfl (by decide) rfl rfl rfl ?_
      refine AOps.passU rfl rfl (by decide) rfl rfl rfl ?_
      refine AOps.passU rfl rfl (by decide) rfl rfl rfl ?_
      refine AOps.passU rfl rfl (by decide) rfl rfl rfl ?_
      refine AOps.step rfl rfl (AOp.of_run (ARun.pickF rfl rfl) ?_)
      refine AOps.step rfl rfl ?_
      refine AOp.of_run (ARun.mvV (.inl rfl) rfl) ?_
      refine AOps.passU rfl rfl (by decide) rfl rfl rfl ?_
      refine AOps.passU rfl rfl (by decide) rfl rfl rfl ?_
      refine AOps.passU rfl rfl (by decide) rfl rfl rfl ?_
      refine AOps.passU rfl rfl (by decide) rfl rfl rfl ?_
      refine AOps.passU rfl rfl (by decide) rfl rfl rfl ?_
      refine AOps.step rfl rfl (AOp.of_run (ARun.pickF rfl rfl) ?_)
      refine AOps.step rfl rfl ?_
      refine AOp.of_run (ARun.mvV (.inl rfl) rfl) ?_
      refine AOps.passU rfl rfl (by decide) rfl rfl rfl ?_
      refine AOps.passU rfl rfl (by decide) rfl rfl rfl ?_
      refine AOps.passU rfl rfl (by decide) rfl rfl rfl ?_
      refine AOps.passU rfl rfl (by decide) rfl rfl rfl ?_
      refine AOps.passU rfl rfl (by decide) rfl rfl rfl ?_
      refine AOps.step rfl rfl (AOp.of_run (ARun.pickF rfl rfl) ?_)
      refine AOps.step rfl rfl ?_
      refine AOp.of_run (ARun.mvV (.inl rfl) rfl) ?_
      refine AOps.passU rfl rfl (by decide) rfl rfl rfl ?_
      refine AOps.passU rfl rfl (by decide) rfl rfl rfl ?_
      refine AOps.passU rfl rfl (by decide) rfl rfl rfl ?_
      refine AOps.passU rfl rfl (by decide) rfl rfl rfl ?_
      refine AOps.passU rfl rfl (by decide) rfl rfl rfl ?_
      refine AOps.step rfl rfl (AOp.of_run (ARun.pickF rfl rfl) ?_)
      refine AOps.step rfl rfl ?_
      refine AOp.of_run (ARun.mvV (.inl rfl) rfl) ?_
      refine AOps.passU rfl rfl (by decide) rfl rfl rfl ?_
      refine AOps.passU rfl rfl (by decide) rfl rfl rfl ?_
      refine AOps.passU rfl rfl (by decide) rfl rfl rfl ?_
      refine AOps.passU rfl rfl (by decide) rfl rfl rfl ?_
      refine AOps.passU rfl rfl (by decide) rfl rfl rfl ?_
      refine AOps.step rfl rfl (AOp.of_run (ARun.pickF rfl rfl) ?_)
      refine AOps.step rfl rfl ?_
      refine AOp.of_run (ARun.mvV (.inl rfl) rfl) ?_
      refine AOps.passU rfl rfl (by decide) rfl rfl rfl ?_
      refine AOps.passU rfl rfl (by decide) rfl rfl rfl ?_
      refine AOps.passU rfl rfl (by decide) rfl rfl rfl ?_
      refine AOps.passU rfl rfl (by decide) rfl rfl rfl ?_
      refine AOps.passU rfl rfl (by decide) rfl rfl rfl ?_
      refine AOps.step rfl rfl (AOp.of_run (ARun.pickF rfl rfl) ?_)
      refine AOps.step rfl rfl ?_
      refine AOp.of_run (ARun.mvV (.inr rfl) rfl) ?_
      refine AOps.nil ?_
      exact ⟨rfl, rfl, rfl⟩
    refine AOps.step rfl rfl ?_
    refine AOp.of_run (ARun.mvV (.inl rfl) rfl) ?_
    refine AOps.want rfl rfl (by decide) rfl ?_
    refine AOps.step rfl rfl ?_
    refine AOp.of_run (ARun.fieldAddrL rfl rfl) ?_
    refine AOps.want rfl rfl (by decide) rfl ?_
    refine AOps.step rfl rfl ?_
    refine AOp.of_run (ARun.loadL rfl rfl rfl) ?_
    refine AOps.want rfl rfl (by decide) rfl ?_
    refine AOps.step rfl rfl ?_
    refine AOp.of_run (ARun.fieldAddrL rfl rfl) ?_
    refine AOps.want rfl rfl (by decide) rfl ?_
    refine AOps.step rfl rfl ?_
    refine AOp.of_run (ARun.loadL rfl rfl rfl) ?_
    refine AOps.want rfl rfl (by decide) rfl ?_
    refine AOps.step rfl rfl (AOp.of_run (ARun.eqlB (by kernel_rfl) rfl rfl rfl) ?_)
    refine AOps.step rfl rfl (AOp.of_run (ARun.pickT rfl rfl) ?_)
    cases g3 : (a.wide == b.wide)
    · refine AOps.step rfl rfl ?_
      refine AOp.of_run (ARun.mvV (.inl rfl) rfl) ?_
      refine AOps.passU rfl rfl (by decide) rfl rfl rfl ?_
      refine AOps.passU rfl rfl (by decide) rfl rfl rfl ?_
      refine AOps.passU rfl rfl (by decide) rfl rfl rfl ?_
      refine AOps.passU rfl rfl (by decide) rfl rfl rfl ?_
      refine AOps.passU rfl rfl (by decide) rfl rfl rfl ?_
      refine AOps.step rfl rfl (AOp.of_run (ARun.pickF rfl rfl) ?_)
      refine AOps.step rfl rfl ?_
      refine AOp.of_run (ARun.mvV (.inl rfl) rfl) ?_
      refine AOps.passU rfl rfl (by decide) rfl rfl rfl ?_
      refine AOps.passU rfl rfl (by decide) rfl rfl rfl ?_
      refine AOps.passU rfl rfl (by decide) rfl rfl rfl ?_
      refine AOps.passU rfl rfl (by decide) rfl rfl rfl ?_
      refine AOps.passU rfl rfl (by decide) rfl rfl rfl ?_
      refine AOps.step rfl rfl (AOp.of_run (ARun.pickF rfl rfl) ?_)
      refine AOps.step rfl rfl ?_
      refine AOp.of_run (ARun.mvV (.inl rfl) rfl) ?_
      refine AOps.passU rfl rfl (by decide) rfl rfl rfl ?_
      refine AOps.passU rfl rfl (by decide) rfl rfl rfl ?_
      refine AOps.passU rfl rfl (by decide) rfl rfl rfl ?_
      refine AOps.passU rfl rfl (by decide) rfl rfl rfl ?_
      refine AOps.passU rfl rfl (by decide) rfl rfl rfl ?_
      refine AOps.step rfl rfl (AOp.of_run (ARun.pickF rfl rfl) ?_)
      refine AOps.step rfl rfl ?_
      refine AOp.of_run (ARun.mvV (.inl rfl) rfl) ?_
      refine AOps.passU rfl rfl (by decide) rfl rfl rfl ?_
      refine AOps.passU rfl rfl (by decide) rfl rfl rfl ?_
      refine AOps.passU rfl rfl (by decide) rfl rfl rfl ?_
      refine AOps.passU rfl rfl (by decide) rfl rfl rfl ?_
      refine AOps.passU rfl rfl (by decide) rfl rfl rfl ?_
      refine AOps.step rfl rfl (AOp.of_run (ARun.pickF rfl rfl) ?_)
      refine AOps.step rfl rfl ?_
      refine AOp.of_run (ARun.mvV (.inl rfl) rfl) ?_
      refine AOps.passU rfl rfl (by decide) rfl rfl rfl ?_
      refine AOps.passU rfl rfl (by decide) rfl rfl rfl ?_
      refine AOps.passU rfl rfl (by decide) rfl rfl rfl ?_
      refine AOps.passU rfl rfl (by decide) rfl rfl rfl ?_
      refine AOps.passU rfl rfl (by decide) rfl rfl rfl ?_
      refine AOps.step rfl rfl (AOp.of_run (ARun.pickF rfl rfl) ?_)
      refine AOps.step rfl rfl ?_
      refine AOp.of_run (ARun.mvV (.inl rfl) rfl) ?_
      refine AOps.passU rfl rfl (by decide) rfl rfl rfl ?_
      refine AOps.passU rfl rfl (by decide) rfl rfl rfl ?_
      refine AOps.passU rfl rfl (by decide) rfl rfl rfl ?_
      refine AOps.passU rfl rfl (by decide) rfl rfl rfl ?_
      refine AOps.passU rfl rfl (by decide) rfl rfl rfl ?_
      refine AOps.step rfl rfl (AOp.of_run (ARun.pickF rfl rfl) ?_)
      refine AOps.step rfl rfl ?_
      refine AOp.of_run (ARun.mvV (.inl rfl) rfl) ?_
      refine AOps.passU rfl rfl (by decide) rfl rfl rfl ?_
      refine AOps.passU rfl rfl (by decide) rfl rfl rfl ?_
      refine AOps.passU rfl rfl (by decide) rfl rfl rfl ?_
      refine AOps.passU rfl rfl (by decide) rfl rfl rfl ?_
      refine AOps.passU rfl rfl (by decide) rfl rfl rfl ?_
      refine AOps.step rfl rfl (AOp.of_run (ARun.pickF rfl rfl) ?_)
      refine AOps.step rfl rfl ?_
      refine AOp.of_run (ARun.mvV (.inl rfl) rfl) ?_
      refine AOps.passU rfl rfl (by decide) rfl rfl rfl ?_
      refine AOps.passU rfl rfl (by decide) rfl rfl rfl ?_
      refine AOps.passU rfl rfl (by decide) rfl rfl rfl ?_
      refine AOps.passU rfl rfl (by decide) rfl rfl rfl ?_
      refine AOps.passU rfl rfl (by decide) rfl rfl rfl ?_
      refine AOps.step rfl rfl (AOp.of_run (ARun.pickF rfl rfl) ?_)
      refine AOps.step rfl rfl ?_
      refine AOp.of_run (ARun.mvV (.inr rfl) rfl) ?_
      refine AOps.nil ?_
      exact ⟨rfl, rfl, rfl⟩
    refine AOps.step rfl rfl ?_
    refine AOp.of_run (ARun.mvV (.inl rfl) rfl) ?_
    refine AOps.want rfl rfl (by decide) rfl ?_
    refine AOps.step rfl rfl ?_
    refine AOp.of_run (ARun.fieldAddrL rfl rfl) ?_
    refine AOps.want rfl rfl (by decide) rfl ?_
    refine AOps.step rfl rfl ?_
    refine AOp.of_run (ARun.loadL rfl rfl rfl) ?_
    refine AOps.want rfl rfl (by decide) rfl ?_
    refine AOps.step rfl rfl ?_
    refine AOp.of_run (ARun.fieldAddrL rfl rfl) ?_
    refine AOps.want rfl rfl (by decide) rfl ?_
    refine AOps.step rfl rfl ?_
    refine AOp.of_run (ARun.loadL rfl rfl rfl) ?_
    refine AOps.want rfl rfl (by decide) rfl ?_
    refine AOps.step rfl rfl ?_
    refine AOp.of_run (ARun.eql rfl rfl rfl) ?_
    refine AOps.step rfl rfl (AOp.of_run (ARun.pickT rfl rfl) ?_)
    cases g4 : decide (a.a = b.a)
    · refine AOps.step rfl rfl ?_
      refine AOp.of_run (ARun.mvV (.inl rfl) rfl) ?_
      refine AOps.passU rfl rfl (by decide) rfl rfl rfl ?_
      refine AOps.passU rfl rfl (by decide) rfl rfl rfl ?_
      refine AOps.passU rfl rfl (by decide) rfl rfl rfl ?_
      refine AOps.passU rfl rfl (by decide) rfl rfl rfl ?_
      refine AOps.passU rfl rfl (by decide) rfl rfl rfl ?_
      refine AOps.step rfl rfl (AOp.of_run (ARun.pickF rfl rfl) ?_)
      refine AOps.step rfl rfl ?_
      refine AOp.of_run (ARun.mvV (.inl rfl) rfl) ?_
      refine AOps.passU rfl rfl (by decide) rfl rfl rfl ?_
      refine AOps.passU rfl rfl (by decide) rfl rfl rfl ?_
      refine AOps.passU rfl rfl (by decide) rfl rfl rfl ?_
      refine AOps.passU rfl rfl (by decide) rfl rfl rfl ?_
      refine AOps.passU rfl rfl (by decide) rfl rfl rfl ?_
      refine AOps.step rfl rfl (AOp.of_run (ARun.pickF rfl rfl) ?_)
      refine AOps.step rfl rfl ?_
      refine AOp.of_run (ARun.mvV (.inl rfl) rfl) ?_
      refine AOps.passU rfl rfl (by decide) rfl rfl rfl ?_
      refine AOps.passU rfl rfl (by decide) rfl rfl rfl ?_
      refine AOps.passU rfl rfl (by decide) rfl rfl rfl ?_
      refine AOps.passU rfl rfl (by decide) rfl rfl rfl ?_
      refine AOps.passU rfl rfl (by decide) rfl rfl rfl ?_
      refine AOps.step rfl rfl (AOp.of_run (ARun.pickF rfl rfl) ?_)
      refine AOps.step rfl rfl ?_
      refine AOp.of_run (ARun.mvV (.inl rfl) rfl) ?_
      refine AOps.passU rfl rfl (by decide) rfl rfl rfl ?_
      refine AOps.passU rfl rfl (by decide) rfl rfl rfl ?_
      refine AOps.passU rfl rfl (by decide) rfl rfl rfl ?_
      refine AOps.passU rfl rfl (by decide) rfl rfl rfl ?_
      refine AOps.passU rfl rfl (by decide) rfl rfl rfl ?_
      refine AOps.step rfl rfl (AOp.of_run (ARun.pickF rfl rfl) ?_)
      refine AOps.step rfl rfl ?_
      refine AOp.of_run (ARun.mvV (.inl rfl) rfl) ?_
      refine AOps.passU rfl rfl (by decide) rfl rfl rfl ?_
      refine AOps.passU rfl rfl (by decide) rfl rfl rfl ?_
      refine AOps.passU rfl rfl (by decide) rfl rfl rfl ?_
      refine AOps.passU rfl rfl (by decide) rfl rfl rfl ?_
      refine AOps.passU rfl rfl (by decide) rfl rfl rfl ?_
      refine AOps.step rfl rfl (AOp.of_run (ARun.pickF rfl rfl) ?_)
      refine AOps.step rfl rfl ?_
      refine AOp.of_run (ARun.mvV (.inl rfl) rfl) ?_
      refine AOps.passU rfl rfl (by decide) rfl rfl rfl ?_
      refine AOps.passU rfl rfl (by decide) rfl rfl rfl ?_
      refine AOps.passU rfl rfl (by decide) rfl rfl rfl ?_
      refine AOps.passU rfl rfl (by decide) rfl rfl rfl ?_
      refine AOps.passU rfl rfl (by decide) rfl rfl rfl ?_
      refine AOps.step rfl rfl (AOp.of_run (ARun.pickF rfl rfl) ?_)
      refine AOps.step rfl rfl ?_
      refine AOp.of_run (ARun.mvV (.inl rfl) rfl) ?_
      refine AOps.passU rfl rfl (by decide) rfl rfl rfl ?_
      refine AOps.passU rfl rfl (by decide) rfl rfl rfl ?_
      refine AOps.passU rfl rfl (by decide) rfl rfl rfl ?_
      refine AOps.passU rfl rfl (by decide) rfl rfl rfl ?_
      refine AOps.passU rfl rfl (by decide) rfl rfl rfl ?_
      refine AOps.step rfl rfl (AOp.of_run (ARun.pickF rfl rfl) ?_)
      refine AOps.step rfl rfl ?_
      refine AOp.of_run (ARun.mvV (.inr rfl) rfl) ?_
      refine AOps.nil ?_
      exact ⟨rfl, rfl, rfl⟩
    refine AOps.step rfl rfl ?_
    refine AOp.of_run (ARun.mvV (.inl rfl) rfl) ?_
    refine AOps.want rfl rfl (by decide) rfl ?_
    refine AOps.step rfl rfl ?_
    refine AOp.of_run (ARun.fieldAddrL rfl rfl) ?_
    refine AOps.want rfl rfl (by decide) rfl ?_
    refine AOps.step rfl rfl ?_
    refine AOp.of_run (ARun.loadL rfl rfl rfl) ?_
    refine AOps.want rfl rfl (by decide) rfl ?_
    refine AOps.step rfl rfl ?_
    refine AOp.of_run (ARun.fieldAddrL rfl rfl) ?_
    refine AOps.want rfl rfl (by decide) rfl ?_
    refine AOps.step rfl rfl ?_
    refine AOp.of_run (ARun.loadL rfl rfl rfl) ?_
    refine AOps.want rfl rfl (by decide) rfl ?_
    refine AOps.step rfl rfl ?_
    refine AOp.of_run (ARun.eql rfl rfl rfl) ?_
    refine AOps.step rfl rfl (AOp.of_run (ARun.pickT rfl rfl) ?_)
    cases g5 : decide (a.b = b.b)
    · refine AOps.step rfl rfl ?_
      refine AOp.of_run (ARun.mvV (.inl rfl) rfl) ?_
      refine AOps.passU rfl rfl (by decide) rfl rfl rfl ?_
      refine AOps.passU rfl rfl (by decide) rfl rfl rfl ?_
      refine AOps.passU rfl rfl (by decide) rfl rfl rfl ?_
      refine AOps.passU rfl rfl (by decide) rfl rfl rfl ?_
      refine AOps.passU rfl rfl (by decide) rfl rfl rfl ?_
      refine AOps.step rfl rfl (AOp.of_run (ARun.pickF rfl rfl) ?_)
      refine AOps.step rfl rfl ?_
      refine AOp.of_run (ARun.mvV (.inl rfl) rfl) ?_
      refine AOps.passU rfl rfl (by decide) rfl rfl rfl ?_
      refine AOps.passU rfl rfl (by decide) rfl rfl rfl ?_
      refine AOps.passU rfl rfl (by decide) rfl rfl rfl ?_
      refine AOps.passU rfl rfl (by decide) rfl rfl rfl ?_
      refine AOps.passU rfl rfl (by decide) rfl rfl rfl ?_
      refine AOps.step rfl rfl (AOp.of_run (ARun.pickF rfl rfl) ?_)
      refine AOps.step rfl rfl ?_
      refine AOp.of_run (ARun.mvV (.inl rfl) rfl) ?_
      refine AOps.passU rfl rfl (by decide) rfl rfl rfl ?_
      refine AOps.passU rfl rfl (by decide) rfl rfl rfl ?_
      refine AOps.passU rfl rfl (by decide) rfl rfl rfl ?_
      refine AOps.passU rfl rfl (by decide) rfl rfl rfl ?_
      refine AOps.passU rfl rfl (by decide) rfl rfl rfl ?_
      refine AOps.step rfl rfl (AOp.of_run (ARun.pickF rfl rfl) ?_)
      refine AOps.step rfl rfl ?_
      refine AOp.of_run (ARun.mvV (.inl rfl) rfl) ?_
      refine AOps.passU rfl rfl (by decide) rfl rfl rfl ?_
      refine AOps.passU rfl rfl (by decide) rfl rfl rfl ?_
      refine AOps.passU rfl rfl (by decide) rfl rfl rfl ?_
      refine AOps.passU rfl rfl (by decide) rfl rfl rfl ?_
      refine AOps.passU rfl rfl (by decide) rfl rfl rfl ?_
      refine AOps.step rfl rfl (AOp.of_run (ARun.pickF rfl rfl) ?_)
      refine AOps.step rfl rfl ?_
      refine AOp.of_run (ARun.mvV (.inl rfl) rfl) ?_
      refine AOps.passU rfl rfl (by decide) rfl rfl rfl ?_
      refine AOps.passU rfl rfl (by decide) rfl rfl rfl ?_
      refine AOps.passU rfl rfl (by decide) rfl rfl rfl ?_
      refine AOps.passU rfl rfl (by decide) rfl rfl rfl ?_
      refine AOps.passU rfl rfl (by decide) rfl rfl rfl ?_
      refine AOps.step rfl rfl (AOp.of_run (ARun.pickF rfl rfl) ?_)
      refine AOps.step rfl rfl ?_
      refine AOp.of_run (ARun.mvV (.inl rfl) rfl) ?_
      refine AOps.passU rfl rfl (by decide) rfl rfl rfl ?_
      refine AOps.passU rfl rfl (by decide) rfl rfl rfl ?_
      refine AOps.passU rfl rfl (by decide) rfl rfl rfl ?_
      refine AOps.passU rfl rfl (by decide) rfl rfl rfl ?_
      refine AOps.passU rfl rfl (by decide) rfl rfl rfl ?_
      refine AOps.step rfl rfl (AOp.of_run (ARun.pickF rfl rfl) ?_)
      refine AOps.step rfl rfl ?_
      refine AOp.of_run (ARun.mvV (.inr rfl) rfl) ?_
      refine AOps.nil ?_
      exact ⟨rfl, rfl, rfl⟩
    refine AOps.step rfl rfl ?_
    refine AOp.of_run (ARun.mvV (.inl rfl) rfl) ?_
    refine AOps.want rfl rfl (by decide) rfl ?_
    refine AOps.step rfl rfl ?_
    refine AOp.of_run (ARun.fieldAddrL rfl rfl) ?_
    refine AOps.want rfl rfl (by decide) rfl ?_
    refine AOps.step rfl rfl ?_
    refine AOp.of_run (ARun.loadL rfl rfl rfl) ?_
    refine AOps.want rfl rfl (by decide) rfl ?_
    refine AOps.step rfl rfl ?_
    refine AOp.of_run (ARun.fieldAddrL rfl rfl) ?_
    refine AOps.want rfl rfl (by decide) rfl ?_
    refine AOps.step rfl rfl ?_
    refine AOp.of_run (ARun.loadL rfl rfl rfl) ?_
    refine AOps.want rfl rfl (by decide) rfl ?_
    refine AOps.step rfl rfl ?_
    refine AOp.of_run (ARun.eql rfl rfl rfl) ?_
    refine AOps.step rfl rfl (AOp.of_run (ARun.pickT rfl rfl) ?_)
    cases g6 : decide (a.imm = b.imm)
    · refine AOps.step rfl rfl ?_
      refine AOp.of_run (ARun.mvV (.inl rfl) rfl) ?_
      refine AOps.passU rfl rfl (by decide) rfl rfl rfl ?_
      refine AOps.passU rfl rfl (by decide) rfl rfl rfl ?_
      refine AOps.passU rfl rfl (by decide) rfl rfl rfl ?_
      refine AOps.passU rfl rfl (by decide) rfl rfl rfl ?_
      refine AOps.passU rfl rfl (by decide) rfl rfl rfl ?_
      refine AOps.step rfl rfl (AOp.of_run (ARun.pickF rfl rfl) ?_)
      refine AOps.step rfl rfl ?_
      refine AOp.of_run (ARun.mvV (.inl rfl) rfl) ?_
      refine AOps.passU rfl rfl (by decide) rfl rfl rfl ?_
      refine AOps.passU rfl rfl (by decide) rfl rfl rfl ?_
      refine AOps.passU rfl rfl (by decide) rfl rfl rfl ?_
      refine AOps.passU rfl rfl (by decide) rfl rfl rfl ?_
      refine AOps.passU rfl rfl (by decide) rfl rfl rfl ?_
      refine AOps.step rfl rfl (AOp.of_run (ARun.pickF rfl rfl) ?_)
      refine AOps.step rfl rfl ?_
      refine AOp.of_run (ARun.mvV (.inl rfl) rfl) ?_
      refine AOps.passU rfl rfl (by decide) rfl rfl rfl ?_
      refine AOps.passU rfl rfl (by decide) rfl rfl rfl ?_
      refine AOps.passU rfl rfl (by decide) rfl rfl rfl ?_
      refine AOps.passU rfl rfl (by decide) rfl rfl rfl ?_
      refine AOps.passU rfl rfl (by decide) rfl rfl rfl ?_
      refine AOps.step rfl rfl (AOp.of_run (ARun.pickF rfl rfl) ?_)
      refine AOps.step rfl rfl ?_
      refine AOp.of_run (ARun.mvV (.inl rfl) rfl) ?_
      refine AOps.passU rfl rfl (by decide) rfl rfl rfl ?_
      refine AOps.passU rfl rfl (by decide) rfl rfl rfl ?_
      refine AOps.passU rfl rfl (by decide) rfl rfl rfl ?_
      refine AOps.passU rfl rfl (by decide) rfl rfl rfl ?_
      refine AOps.passU rfl rfl (by decide) rfl rfl rfl ?_
      refine AOps.step rfl rfl (AOp.of_run (ARun.pickF rfl rfl) ?_)
      refine AOps.step rfl rfl ?_
      refine AOp.of_run (ARun.mvV (.inl rfl) rfl) ?_
      refine AOps.passU rfl rfl (by decide) rfl rfl rfl ?_
      refine AOps.passU rfl rfl (by decide) rfl rfl rfl ?_
      refine AOps.passU rfl rfl (by decide) rfl rfl rfl ?_
      refine AOps.passU rfl rfl (by decide) rfl rfl rfl ?_
      refine AOps.passU rfl rfl (by decide) rfl rfl rfl ?_
      refine AOps.step rfl rfl (AOp.of_run (ARun.pickF rfl rfl) ?_)
      refine AOps.step rfl rfl ?_
      refine AOp.of_run (ARun.mvV (.inr rfl) rfl) ?_
      refine AOps.nil ?_
      exact ⟨rfl, rfl, rfl⟩
    refine AOps.step rfl rfl ?_
    refine AOp.of_run (ARun.mvV (.inl rfl) rfl) ?_
    refine AOps.want rfl rfl (by decide) rfl ?_
    refine AOps.step rfl rfl ?_
    refine AOp.of_run (ARun.fieldAddrL rfl rfl) ?_
    refine AOps.want rfl rfl (by decide) rfl ?_
    refine AOps.step rfl rfl ?_
    refine AOp.of_run (ARun.loadL rfl rfl rfl) ?_
    refine AOps.want rfl rfl (by decide) rfl ?_
    refine AOps.step rfl rfl ?_
    refine AOp.of_run (ARun.fieldAddrL rfl rfl) ?_
    refine AOps.want rfl rfl (by decide) rfl ?_
    refine AOps.step rfl rfl ?_
    refine AOp.of_run (ARun.loadL rfl rfl rfl) ?_
    refine AOps.want rfl rfl (by decide) rfl ?_
    refine AOps.step rfl rfl ?_
    refine AOp.of_run (ARun.eql rfl rfl rfl) ?_
    refine AOps.step rfl rfl (AOp.of_run (ARun.pickT rfl rfl) ?_)
    cases g7 : decide (a.size = b.size)
    · refine AOps.step rfl rfl ?_
      refine AOp.of_run (ARun.mvV (.inl rfl) rfl) ?_
      refine AOps.passU rfl rfl (by decide) rfl rfl rfl ?_
      refine AOps.passU rfl rfl (by decide) rfl rfl rfl ?_
      refine AOps.passU rfl rfl (by decide) rfl rfl rfl ?_
      refine AOps.passU rfl rfl (by decide) rfl rfl rfl ?_
      refine AOps.passU rfl rfl (by decide) rfl rfl rfl ?_
      refine AOps.step rfl rfl (AOp.of_run (ARun.pickF rfl rfl) ?_)
      refine AOps.step rfl rfl ?_
      refine AOp.of_run (ARun.mvV (.inl rfl) rfl) ?_
      refine AOps.passU rfl rfl (by decide) rfl rfl rfl ?_
      refine AOps.passU rfl rfl (by decide) rfl rfl rfl ?_
      refine AOps.passU rfl rfl (by decide) rfl rfl rfl ?_
      refine AOps.passU rfl rfl (by decide) rfl rfl rfl ?_
      refine AOps.passU rfl rfl (by decide) rfl rfl rfl ?_
      refine AOps.step rfl rfl (AOp.of_run (ARun.pickF rfl rfl) ?_)
      refine AOps.step rfl rfl ?_
      refine AOp.of_run (ARun.mvV (.inl rfl) rfl) ?_
      refine AOps.passU rfl rfl (by decide) rfl rfl rfl ?_
      refine AOps.passU rfl rfl (by decide) rfl rfl rfl ?_
      refine AOps.passU rfl rfl (by decide) rfl rfl rfl ?_
      refine AOps.passU rfl rfl (by decide) rfl rfl rfl ?_
      refine AOps.passU rfl rfl (by decide) rfl rfl rfl ?_
      refine AOps.step rfl rfl (AOp.of_run (ARun.pickF rfl rfl) ?_)
      refine AOps.step rfl rfl ?_
      refine AOp.of_run (ARun.mvV (.inl rfl) rfl) ?_
      refine AOps.passU rfl rfl (by decide) rfl rfl rfl ?_
      refine AOps.passU rfl rfl (by decide) rfl rfl rfl ?_
      refine AOps.passU rfl rfl (by decide) rfl rfl rfl ?_
      refine AOps.passU rfl rfl (by decide) rfl rfl rfl ?_
      refine AOps.passU rfl rfl (by decide) rfl rfl rfl ?_
      refine AOps.step rfl rfl (AOp.of_run (ARun.pickF rfl rfl) ?_)
      refine AOps.step rfl rfl ?_
      refine AOp.of_run (ARun.mvV (.inr rfl) rfl) ?_
      refine AOps.nil ?_
      exact ⟨rfl, rfl, rfl⟩
    refine AOps.step rfl rfl ?_
    refine AOp.of_run (ARun.mvV (.inl rfl) rfl) ?_
    refine AOps.want rfl rfl (by decide) rfl ?_
    refine AOps.step rfl rfl ?_
    refine AOp.of_run (ARun.fieldAddrL rfl rfl) ?_
    refine AOps.want rfl rfl (by decide) rfl ?_
    refine AOps.step rfl rfl ?_
    refine AOp.of_run (ARun.loadL rfl rfl rfl) ?_
    refine AOps.want rfl rfl (by decide) rfl ?_
    refine AOps.step rfl rfl ?_
    refine AOp.of_run (ARun.fieldAddrL rfl rfl) ?_
    refine AOps.want rfl rfl (by decide) rfl ?_
    refine AOps.step rfl rfl ?_
    refine AOp.of_run (ARun.loadL rfl rfl rfl) ?_
    refine AOps.want rfl rfl (by decide) rfl ?_
    refine AOps.step rfl rfl ?_
    refine AOp.of_run (ARun.eql rfl rfl rfl) ?_
    refine AOps.step rfl rfl (AOp.of_run (ARun.pickT rfl rfl) ?_)
    cases g8 : decide (a.off = b.off)
    · refine AOps.step rfl rfl ?_
      refine AOp.of_run (ARun.mvV (.inl rfl) rfl) ?_
      refine AOps.passU rfl rfl (by decide) rfl rfl rfl ?_
      refine AOps.passU rfl rfl (by decide) rfl rfl rfl ?_
      refine AOps.passU rfl rfl (by decide) rfl rfl rfl ?_
      refine AOps.passU rfl rfl (by decide) rfl rfl rfl ?_
      refine AOps.passU rfl rfl (by decide) rfl rfl rfl ?_
      refine AOps.step rfl rfl (AOp.of_run (ARun.pickF rfl rfl) ?_)
      refine AOps.step rfl rfl ?_
      refine AOp.of_run (ARun.mvV (.inl rfl) rfl) ?_
      refine AOps.passU rfl rfl (by decide) rfl rfl rfl ?_
      refine AOps.passU rfl rfl (by decide) rfl rfl rfl ?_
      refine AOps.passU rfl rfl (by decide) rfl rfl rfl ?_
      refine AOps.passU rfl rfl (by decide) rfl rfl rfl ?_
      refine AOps.passU rfl rfl (by decide) rfl rfl rfl ?_
      refine AOps.step rfl rfl (AOp.of_run (ARun.pickF rfl rfl) ?_)
      refine AOps.step rfl rfl ?_
      refine AOp.of_run (ARun.mvV (.inl rfl) rfl) ?_
      refine AOps.passU rfl rfl (by decide) rfl rfl rfl ?_
      refine AOps.passU rfl rfl (by decide) rfl rfl rfl ?_
      refine AOps.passU rfl rfl (by decide) rfl rfl rfl ?_
      refine AOps.passU rfl rfl (by decide) rfl rfl rfl ?_
      refine AOps.passU rfl rfl (by decide) rfl rfl rfl ?_
      refine AOps.step rfl rfl (AOp.of_run (ARun.pickF rfl rfl) ?_)
      refine AOps.step rfl rfl ?_
      refine AOp.of_run (ARun.mvV (.inr rfl) rfl) ?_
      refine AOps.nil ?_
      exact ⟨rfl, rfl, rfl⟩
    refine AOps.step rfl rfl ?_
    refine AOp.of_run (ARun.mvV (.inl rfl) rfl) ?_
    refine AOps.want rfl rfl (by decide) rfl ?_
    refine AOps.step rfl rfl ?_
    refine AOp.of_run (ARun.fieldAddrL rfl rfl) ?_
    refine AOps.want rfl rfl (by decide) rfl ?_
    refine AOps.step rfl rfl ?_
    refine AOp.of_run (ARun.loadL rfl rfl rfl) ?_
    refine AOps.want rfl rfl (by decide) rfl ?_
    refine AOps.step rfl rfl ?_
    refine AOp.of_run (ARun.fieldAddrL rfl rfl) ?_
    refine AOps.want rfl rfl (by decide) rfl ?_
    refine AOps.step rfl rfl ?_
    refine AOp.of_run (ARun.loadL rfl rfl rfl) ?_
    refine AOps.want rfl rfl (by decide) rfl ?_
    refine AOps.step rfl rfl (AOp.of_run (ARun.eqlB (by kernel_rfl) rfl rfl rfl) ?_)
    refine AOps.step rfl rfl (AOp.of_run (ARun.pickT rfl rfl) ?_)
    cases g9 : (a.guard == b.guard)
    · refine AOps.step rfl rfl ?_
      refine AOp.of_run (ARun.mvV (.inl rfl) rfl) ?_
      refine AOps.passU rfl rfl (by decide) rfl rfl rfl ?_
      refine AOps.passU rfl rfl (by decide) rfl rfl rfl ?_
      refine AOps.passU rfl rfl (by decide) rfl rfl rfl ?_
      refine AOps.passU rfl rfl (by decide) rfl rfl rfl ?_
      refine AOps.passU rfl rfl (by decide) rfl rfl rfl ?_
      refine AOps.step rfl rfl (AOp.of_run (ARun.pickF rfl rfl) ?_)
      refine AOps.step rfl rfl ?_
      refine AOp.of_run (ARun.mvV (.inl rfl) rfl) ?_
      refine AOps.passU rfl rfl (by decide) rfl rfl rfl ?_
      refine AOps.passU rfl rfl (by decide) rfl rfl rfl ?_
      refine AOps.passU rfl rfl (by decide) rfl rfl rfl ?_
      refine AOps.passU rfl rfl (by decide) rfl rfl rfl ?_
      refine AOps.passU rfl rfl (by decide) rfl rfl rfl ?_
      refine AOps.step rfl rfl (AOp.of_run (ARun.pickF rfl rfl) ?_)
      refine AOps.step rfl rfl ?_
      refine AOp.of_run (ARun.mvV (.inr rfl) rfl) ?_
      refine AOps.nil ?_
      exact ⟨rfl, rfl, rfl⟩
    refine AOps.step rfl rfl ?_
    refine AOp.of_run (ARun.mvV (.inl rfl) rfl) ?_
    refine AOps.want rfl rfl (by decide) rfl ?_
    refine AOps.step rfl rfl ?_
    refine AOp.of_run (ARun.fieldAddrL rfl rfl) ?_
    refine AOps.want rfl rfl (by decide) rfl ?_
    refine AOps.step rfl rfl ?_
    refine AOp.of_run (ARun.loadL rfl rfl rfl) ?_
    refine AOps.want rfl rfl (by decide) rfl ?_
    refine AOps.step rfl rfl ?_
    refine AOp.of_run (ARun.fieldAddrL rfl rfl) ?_
    refine AOps.want rfl rfl (by decide) rfl ?_
    refine AOps.step rfl rfl ?_
    refine AOp.of_run (ARun.loadL rfl rfl rfl) ?_
    refine AOps.want rfl rfl (by decide) rfl ?_
    refine AOps.step rfl rfl ?_
    refine AOp.of_run (ARun.eql rfl rfl rfl) ?_
    refine AOps.step rfl rfl (AOp.of_run (ARun.pickT rfl rfl) ?_)
    cases g10 : decide (a.at_ = b.at_)
    · refine AOps.step rfl rfl ?_
      refine AOp.of_run (ARun.mvV (.inl rfl) rfl) ?_
      refine AOps.passU rfl rfl (by decide) rfl rfl rfl ?_
      refine AOps.passU rfl rfl (by decide) rfl rfl rfl ?_
      refine AOps.passU rfl rfl (by decide) rfl rfl rfl ?_
      refine AOps.passU rfl rfl (by decide) rfl rfl rfl ?_
      refine AOps.passU rfl rfl (by decide) rfl rfl rfl ?_
      refine AOps.step rfl rfl (AOp.of_run (ARun.pickF rfl rfl) ?_)
      refine AOps.step rfl rfl ?_
      refine AOp.of_run (ARun.mvV (.inr rfl) rfl) ?_
      refine AOps.nil ?_
      exact ⟨rfl, rfl, rfl⟩
    refine AOps.step rfl rfl ?_
    refine AOp.of_run (ARun.mvV (.inl rfl) rfl) ?_
    refine AOps.want rfl rfl (by decide) rfl ?_
    refine AOps.step rfl rfl ?_
    refine AOp.of_run (ARun.fieldAddrL rfl rfl) ?_
    refine AOps.want rfl rfl (by decide) rfl ?_
    refine AOps.step rfl rfl ?_
    refine AOp.of_run (ARun.loadL rfl rfl rfl) ?_
    refine AOps.want rfl rfl (by decide) rfl ?_
    refine AOps.step rfl rfl ?_
    refine AOp.of_run (ARun.fieldAddrL rfl rfl) ?_
    refine AOps.want rfl rfl (by decide) rfl ?_
    refine AOps.step rfl rfl ?_
    refine AOp.of_run (ARun.loadL rfl rfl rfl) ?_
    refine AOps.want rfl rfl (by decide) rfl ?_
    refine AOps.step rfl rfl (AOp.call_ rfl rfl ((Ints_spec a.args b.args _ ha).mono ?_))
    rintro _ _ ⟨rfl, rfl⟩
    refine AOps.step rfl rfl (AOp.of_run (ARun.pickT rfl rfl) ?_)
    refine AOps.step rfl rfl ?_
    refine AOp.of_run (ARun.mvV (.inr rfl) rfl) ?_
    refine AOps.nil ?_
    exact ⟨rfl, rfl, rfl⟩
  rintro _ τ h7 ⟨rfl, rfl, hs⟩
  refine AC.ret (ARes.one rfl (RV.tmp' hs) ⟨rfl, rfl⟩)
end Go.Proofs.Ytilanageangegaa

/- Walk of the document's answer for layer 16 (9): Same. -/
set_option linter.unusedVariables false
set_option linter.unusedSimpArgs false
namespace Go.Proofs.Ytilanageangegaa
open Go.Ab

def termV (t : DTerm) : List Value := [.int .i64 t.op, .int .i64 t.cond, .bool t.wide, .int .i64 t.a, .int .i64 t.b, .int .i64 t.to, .int .i64 t.els]
theorem eTerm_v (t : DTerm) : eTerm t = (termV t).map .v := rfl
theorem term_fit (x y : DTerm) : ((Try.prog.fieldsOf 58).toList.all fun f => Ab.fitB Try.prog (termV x).toArray (termV y).toArray f) = true := by kernel_rfl
theorem term_same (x y : DTerm) : ((Try.prog.fieldsOf 58).toList.all fun f => sameV (termV x).toArray (termV y).toArray f.offset) = decide (x = y) := by
  have e : ((Try.prog.fieldsOf 58).toList.all fun f => sameV (termV x).toArray (termV y).toArray f.offset) = ((x.op == y.op) && ((x.cond == y.cond) && ((x.wide == y.wide) && ((x.a == y.a) && ((x.b == y.b) && ((x.to == y.to) && ((x.els == y.els) && true))))))) := by kernel_rfl
  rw [e]
  obtain ⟨a1, a2, a3, a4, a5, a6, a7⟩ := x
  obtain ⟨b1, b2, b3, b4, b5, b6, b7⟩ := y
  rw [Bool.eq_iff_iff]
  simp [DTerm.mk.injEq]
theorem nodeB_eq (a b : DNode) : nodeB a b = decide (a = b) := by
  obtain ⟨a1, a2, a3, a4, a5, a6, a7, a8, a9, a10, a11, a12⟩ := a
  obtain ⟨b1, b2, b3, b4, b5, b6, b7, b8, b9, b10, b11, b12⟩ := b
  rw [Bool.eq_iff_iff]
  simp [nodeB, DNode.mk.injEq]
  constructor
  · rintro ⟨⟨⟨⟨⟨⟨⟨⟨⟨⟨⟨h1, h2⟩, h3⟩, h4⟩, h5⟩, h6⟩, h7⟩, h8⟩, h9⟩, h10⟩, h11⟩, h12⟩
    exact ⟨h1, h2, h3, h4, h5, h6, h7, h8, h9, h10, h12, h11⟩
  · rintro ⟨h1, h2, h3, h4, h5, h6, h7, h8, h9, h10, h12, h11⟩
    exact ⟨⟨⟨⟨⟨⟨⟨⟨⟨⟨⟨h1, h2⟩, h3⟩, h4⟩, h5⟩, h6⟩, h7⟩, h8⟩, h9⟩, h10⟩, h11⟩, h12⟩
theorem list_eq_of {α : Type} {a b : List α} (hl : a.length = b.length) (h : ∀ i (h1 : i < a.length) (h2 : i < b.length), a[i] = b[i]) : a = b := List.ext_getElem hl h

set_option maxRecDepth 10000 in
theorem SameR_spec (a b : DIr) (h : AHeap) (z : Sz a) : Sp Try.prog 13 [.agg (eIr a), .agg (eIr b)] h (fun r h' => r = eB (decide (a = b)) ∧ h' = h) := by
  have hz := z.parts
  refine Sp.of Try.func13 rfl rfl (by show 2 ≤ 127; decide) ?_
  have hno : ¬ a = b → AVal.v (.bool false) = eB (decide (a = b)) := fun e => by rw [decide_eq_false e]; rfl
  (repeat (first | refine AC.seq ?_ | refine AC.block ?_ | refine AC.skip ?_))
  refine AC.region ?_
  refine AOps.step rfl rfl ?_
  refine AOp.boxL rfl rfl ?_
  refine AOps.step rfl rfl ?_
  refine AOp.boxL rfl rfl ?_
  refine AOps.step rfl rfl ?_
  refine AOp.of_run (ARun.mvV (.inr rfl) rfl) ?_
  refine AOps.nil ?_
  (repeat (first | refine AC.seq ?_ | refine AC.block ?_ | refine AC.skip ?_ | refine AC.exit ?_))
  refine AC.mono (Q := fun ex τ h2 => ex = .normal ∧ h2 = h ∧ Slots τ [(2, .lp (eIr a) 0), (3, .lp (eIr b) 0), (23, eB (!(decide (a.values = b.values) && decide ((a.parts.length : Int) = b.parts.length))))]) ?_ ?_
  · (repeat (first | refine AC.seq ?_ | refine AC.block ?_ | refine AC.skip ?_))
    refine AC.region ?_
    refine AOps.step rfl rfl ?_
    refine AOp.of_run (ARun.fieldAddrL rfl rfl) ?_
    refine AOps.step rfl rfl ?_
    refine AOp.of_run (ARun.loadL rfl rfl rfl) ?_
    refine AOps.step rfl rfl ?_
    refine AOp.of_run (ARun.fieldAddrL rfl rfl) ?_
    refine AOps.step rfl rfl ?_
    refine AOp.of_run (ARun.loadL rfl rfl rfl) ?_
    refine AOps.step rfl rfl ?_
    refine AOp.of_run (ARun.neq rfl rfl rfl) ?_
    refine AOps.step rfl rfl ?_
    refine AOp.of_run (ARun.mvV (.inl rfl) rfl) ?_
    cases g1 : decide (a.values = b.values)
    · refine AOps.passU rfl rfl (by decide) rfl rfl rfl ?_
      refine AOps.passU rfl rfl (by decide) rfl rfl rfl ?_
      refine AOps.passU rfl rfl (by decide) rfl rfl rfl ?_
      refine AOps.passU rfl rfl (by decide) rfl rfl rfl ?_
      refine AOps.passU rfl rfl (by decide) rfl rfl rfl ?_
      refine AOps.passU rfl rfl (by decide) rfl rfl rfl ?_
      refine AOps.passU rfl rfl (by decide) rfl rfl rfl ?_
      refine AOps.step rfl rfl (AOp.of_run (ARun.pickT rfl rfl) ?_)
      refine AOps.nil ?_
      exact ⟨rfl, rfl, rfl, rfl, rfl, trivial⟩
    · refine AOps.want rfl rfl (by decide) rfl ?_
      refine AOps.step rfl rfl ?_
      refine AOp.of_run (ARun.fieldAddrL rfl rfl) ?_
      refine AOps.want rfl rfl (by decide) rfl ?_
      refine AOps.step rfl rfl ?_
      refine AOp.of_run (ARun.loadL rfl rfl rfl) ?_
      refine AOps.want rfl rfl (by decide) rfl ?_
      refine AOps.step rfl rfl ?_
      refine AOp.of_run (ARun.lenL rfl rfl) ?_
      refine AOps.want rfl rfl (by decide) rfl ?_
      refine AOps.step rfl rfl ?_
      refine AOp.of_run (ARun.fieldAddrL rfl rfl) ?_
      refine AOps.want rfl rfl (by decide) rfl ?_
      refine AOps.step rfl rfl ?_
      refine AOp.of_run (ARun.loadL rfl rfl rfl) ?_
      refine AOps.want rfl rfl (by decide) rfl ?_
      refine AOps.step rfl rfl ?_
      refine AOp.of_run (ARun.lenL rfl rfl) ?_
      refine AOps.want rfl rfl (by decide) rfl ?_
      refine AOps.step rfl rfl ?_
      refine AOp.of_run (ARun.neq rfl rfl rfl) ?_
      refine AOps.step rfl rfl (AOp.of_run (ARun.pickF rfl rfl) ?_)
      refine AOps.nil ?_
      exact ⟨rfl, rfl, rfl, rfl, rfl, trivial⟩
  rintro _ τ _ ⟨rfl, rfl, hs⟩
  obtain ⟨t0, rfl⟩ := hs.open_
  (repeat (first | refine AC.seq ?_ | refine AC.block ?_ | refine AC.skip ?_)); refine AC.cond rfl (fun hc => ?_) (fun hc => ?_)
  · (repeat (first | refine AC.seq ?_ | refine AC.block ?_ | refine AC.skip ?_))
    refine AC.region ?_
    refine AOps.step rfl rfl ?_
    refine AOp.of_run (ARun.mvV (.inr rfl) rfl) ?_
    refine AOps.nil ?_
    refine AC.ret (ARes.one rfl (RV.V rfl) ⟨hno fun e => ?_, rfl⟩)
    subst e; simp at hc
  have hv : a.values = b.values ∧ (a.parts.length : Int) = b.parts.length := by simpa using hc
  have hpl : a.parts.length = b.parts.length := by omega
  rename_i h
  (repeat (first | refine AC.seq ?_ | refine AC.block ?_ | refine AC.skip ?_ | refine AC.exit ?_))
  (repeat (first | refine AC.seq ?_ | refine AC.block ?_ | refine AC.skip ?_))
  refine AC.region ?_
  refine AOps.step rfl rfl ?_
  refine AOp.of_run (ARun.mvV (.inr rfl) rfl) ?_
  refine AOps.nil ?_
  (repeat (first | refine AC.seq ?_ | refine AC.block ?_ | refine AC.skip ?_ | refine AC.exit ?_))
  refine AC.loop (fun m τ h' => ∃ i : Nat, i ≤ a.parts.length ∧ m = a.parts.length - i ∧ Slots τ [(2, .lp (eIr a) 0), (3, .lp (eIr b) 0), (5, eI i)] ∧ (∀ j (h1 : j < a.parts.length) (h2 : j < b.parts.length), j < i → a.parts[j] = b.parts[j]) ∧ h' = h) a.parts.length ?_ ?_
  · exact ⟨0, Nat.zero_le _, rfl, ⟨rfl, rfl, rfl, trivial⟩, fun j _ _ hj => by omega, rfl⟩
  rintro m τ h ⟨i, hi, rfl, hs, hall, rfl⟩
  obtain ⟨t1, rfl⟩ := hs.open_
  (repeat (first | refine AC.seq ?_ | refine AC.block ?_ | refine AC.skip ?_))
  refine AC.region ?_
  refine AOps.step rfl rfl ?_
  refine AOp.of_run (ARun.mvV (.inl rfl) rfl) ?_
  refine AOps.step rfl rfl ?_
  refine AOp.of_run (ARun.fieldAddrL rfl rfl) ?_
  refine AOps.step rfl rfl ?_
  refine AOp.of_run (ARun.loadL rfl rfl rfl) ?_
  refine AOps.step rfl rfl ?_
  refine AOp.of_run (ARun.lenL rfl rfl) ?_
  refine AOps.step rfl rfl ?_
  refine AOp.of_run (ARun.lss rfl rfl rfl) ?_
  refine AOps.nil ?_
  (repeat (first | refine AC.seq ?_ | refine AC.block ?_ | refine AC.skip ?_)); refine AC.cond rfl (fun hc => ?_) (fun hc => ?_)
  · have hlt : i < a.parts.length := by simpa using hc
    have hlt2 : i < b.parts.length := by omega
    have hrd : rdc (a.parts.flatMap ePart) ((i : Int).toNat * 10) 10 = some (ePart a.parts[i]) := by rw [Int.toNat_natCast]; exact rdc_flatMap ePart_len hlt
    have hrd2 : rdc (b.parts.flatMap ePart) ((i : Int).toNat * 10) 10 = some (ePart b.parts[i]) := by rw [Int.toNat_natCast]; exact rdc_flatMap ePart_len hlt2
    have hbad : ¬ a.parts[i] = b.parts[i] → ¬ a = b := fun e q => by subst q; exact e rfl
    have hgood : a.parts[i] = b.parts[i] → ∀ j (h1 : j < a.parts.length) (h2 : j < b.parts.length), j < i + 1 → a.parts[j] = b.parts[j] := fun e j h1 h2 hji => by
      rcases Nat.lt_or_ge j i with c | c
      · exact hall j h1 h2 c
      · obtain rfl : j = i := by omega
        exact e
    have zp := z.part _ (List.getElem_mem hlt)
    generalize a.parts[i] = x at *
    generalize b.parts[i] = y at *
    have hp1 := zp.phis
    have hp2 := zp.nodes
    have hp3 := zp.pred
    (repeat (first | refine AC.seq ?_ | refine AC.block ?_ | refine AC.skip ?_ | refine AC.exit ?_))
    refine AC.mono (Q := fun ex τ h2 => ex = .normal ∧ ∃ b6 b7 : Nat, h b6 = none ∧ hset h b6 (some (.cells (ePart x) 60 10)) b7 = none ∧ h2 = hset (hset h b6 (some (.cells (ePart x) 60 10))) b7 (some (.cells (ePart y) 60 10)) ∧ Slots τ [(2, .lp (eIr a) 0), (3, .lp (eIr b) 0), (5, eI i), (6, .v (ptr b6)), (7, .v (ptr b7))]) ?_ ?_
    · (repeat (first | refine AC.seq ?_ | refine AC.block ?_ | refine AC.skip ?_))
      refine AC.forkedH [0, 1, 2, 3, 4, 5, 6, 7, 8, 9] [1, 4, 6, 9] [0, 1, 2, 3, 4, 5, 6, 7, 8, 9] [[10, 11, 12, 13], [11, 10, 12, 13]] mixed (by kernel_rfl) ?_
      refine RunA.pure rfl rfl rfl rfl rfl (fun _ => ARun.fieldAddrL rfl rfl) ?_
      refine RunA.calm rfl rfl rfl rfl rfl (HSub.refl _) (fun _ hsub => ARun.loadL rfl rfl rfl) ?_
      refine RunA.pure rfl rfl rfl rfl rfl (fun _ => ARun.mvV (.inl rfl) rfl) ?_
      refine RunA.pure rfl rfl rfl rfl rfl (fun _ => ARun.indexAddrL rfl rfl rfl (by omega) (by omega)) ?_
      refine RunA.calm rfl rfl rfl rfl rfl (HSub.refl _) (fun _ hsub => ARun.loadNL rfl rfl hrd) ?_
      refine RunA.pure rfl rfl rfl rfl rfl (fun _ => ARun.fieldAddrL rfl rfl) ?_
      refine RunA.calm rfl rfl rfl rfl rfl (HSub.refl _) (fun _ hsub => ARun.loadL rfl rfl rfl) ?_
      refine RunA.pure rfl rfl rfl rfl rfl (fun _ => ARun.mvV (.inl rfl) rfl) ?_
      refine RunA.pure rfl rfl rfl rfl rfl (fun _ => ARun.indexAddrL rfl rfl rfl (by omega) (by omega)) ?_
      refine RunA.calm rfl rfl rfl rfl rfl (HSub.refl _) (fun _ hsub => ARun.loadNL rfl rfl hrd2) ?_
      refine RunA.both ?_ ?_
      · refine RunA.op rfl rfl rfl rfl ?_
        refine AOp.alloc rfl (fun b6 hb6 => ?_)
        refine ⟨fun _ q => q.trans (HSub.add _ (by assumption)), ?_⟩
        refine RunA.op rfl rfl rfl rfl ?_
        refine AOp.alloc rfl (fun b7 hb7 => ?_)
        refine ⟨fun _ q => q.trans (HSub.add _ (by assumption)), ?_⟩
        refine RunA.op rfl rfl rfl rfl ?_
        refine AOp.store rfl rfl (hset_skip (fresh_ne hb7).symm (hset_same _ _ _)) rfl ?_
        refine ⟨fun _ q => HSub.put q hb6, ?_⟩
        refine RunA.op rfl rfl rfl rfl ?_
        refine AOp.store rfl rfl (hset_skip (fresh_ne hb7) (hset_same _ _ _)) rfl ?_
        refine ⟨lateAbs (by decide +kernel), ?_⟩
        refine RunA.nil ?_
        exact ⟨rfl, b6, b7, hb6, (by rw [hset_ne _ _ (fresh_ne hb7)]; exact fresh_peel hb7), (by rw [hset_comm _ _ _ (fresh_ne hb7), hset_hset, hset_hset]; rfl), rfl, rfl, rfl, rfl, rfl, trivial⟩
      · refine RunA.op rfl rfl rfl rfl ?_
        refine AOp.alloc rfl (fun b7 hb7 => ?_)
        refine ⟨fun _ q => q.trans (HSub.add _ (by assumption)), ?_⟩
        refine RunA.op rfl rfl rfl rfl ?_
        refine AOp.alloc rfl (fun b6 hb6 => ?_)
        refine ⟨fun _ q => q.trans (HSub.add _ (by assumption)), ?_⟩
        refine RunA.op rfl rfl rfl rfl ?_
        refine AOp.store rfl rfl (hset_same _ _ _) rfl ?_
        refine ⟨fun _ q => HSub.put q (fresh_peel hb6), ?_⟩
        refine RunA.op rfl rfl rfl rfl ?_
        refine AOp.store rfl rfl (hset_skip (fresh_ne hb6).symm (hset_skip (fresh_ne hb6).symm (hset_same _ _ _))) rfl ?_
        refine ⟨lateAbs (by decide +kernel), ?_⟩
        refine RunA.nil ?_
        exact ⟨rfl, b6, b7, fresh_peel hb6, (by rw [hset_ne _ _ (fresh_ne hb6).symm]; exact hb7), (by rw [hset_hset, hset_comm _ _ _ (fresh_ne hb6).symm, hset_hset]; rfl), rfl, rfl, rfl, rfl, rfl, trivial⟩
    rintro _ τ _ ⟨rfl, b6, b7, hb6, hb7, rfl, hs⟩
    obtain ⟨t2, rfl⟩ := hs.open_
    refine AC.le (Le.freezeVar (d := 7) rfl (hset_same _ _ _)) ?_
    rw [hset_hset, hset_id hb7]
    refine AC.le (Le.freezeVar (d := 6) rfl (hset_same _ _ _)) ?_
    rw [hset_hset, hset_id hb6]
    (repeat (first | refine AC.seq ?_ | refine AC.block ?_ | refine AC.skip ?_ | refine AC.exit ?_))
    refine AC.mono (Q := fun ex τ h2 => ex = .normal ∧ h2 = h ∧ Slots τ [(2, .lp (eIr a) 0), (3, .lp (eIr b) 0), (5, eI i), (6, .lp (ePart x) 0), (7, .lp (ePart y) 0), (71, eB (!(((decide (x.pred = y.pred) && decide ((x.phis.length : Int) = y.phis.length)) && decide ((x.nodes.length : Int) = y.nodes.length)) && decide (x.end_ = y.end_))))]) ?_ ?_
    · (repeat (first | refine AC.seq ?_ | refine AC.block ?_ | refine AC.skip ?_))
      refine AC.region ?_
      refine AOps.step rfl rfl ?_
      refine AOp.of_run (ARun.fieldAddrL rfl rfl) ?_
      refine AOps.step rfl rfl ?_
      refine AOp.of_run (ARun.loadL rfl rfl rfl) ?_
      refine AOps.step rfl rfl ?_
      refine AOp.of_run (ARun.fieldAddrL rfl rfl) ?_
      refine AOps.step rfl rfl ?_
      refine AOp.of_run (ARun.loadL rfl rfl rfl) ?_
      refine AOps.step rfl rfl (AOp.call_ rfl rfl ((Ints_spec x.pred y.pred _ (by omega)).mono ?_))
      rintro _ _ ⟨rfl, rfl⟩
      refine AOps.step rfl rfl ?_
      refine AOp.of_run (ARun.not rfl rfl) ?_
      refine AOps.step rfl rfl ?_
      refine AOp.of_run (ARun.mvV (.inl rfl) rfl) ?_
      cases g1 : decide (x.pred = y.pred)
      · refine AOps.passU rfl rfl (by decide) rfl rfl rfl ?_
        refine AOps.passU rfl rfl (by decide) rfl rfl rfl ?_
        refine AOps.passU rfl rfl (by decide) rfl rfl rfl ?_
        refine AOps.passU rfl rfl (by decide) rfl rfl rfl ?_
        refine AOps.passU rfl rfl (by decide) rfl rfl rfl ?_
        refine AOps.passU rfl rfl (by decide) rfl rfl rfl ?_
        refine AOps.passU rfl rfl (by decide) rfl rfl rfl ?_
        refine AOps.step rfl rfl (AOp.of_run (ARun.pickT rfl rfl) ?_)
        refine AOps.step rfl rfl ?_
        refine AOp.of_run (ARun.mvV (.inl rfl) rfl) ?_
        refine AOps.passU rfl rfl (by decide) rfl rfl rfl ?_
        refine AOps.passU rfl rfl (by decide) rfl rfl rfl ?_
        refine AOps.passU rfl rfl (by decide) rfl rfl rfl ?_
        refine AOps.passU rfl rfl (by decide) rfl rfl rfl ?_
        refine AOps.passU rfl rfl (by decide) rfl rfl rfl ?_
        refine AOps.passU rfl rfl (by decide) rfl rfl rfl ?_
        refine AOps.passU rfl rfl (by decide) rfl rfl rfl ?_
        refine AOps.step rfl rfl (AOp.of_run (ARun.pickT rfl rfl) ?_)
        refine AOps.step rfl rfl ?_
        refine AOp.of_run (ARun.mvV (.inl rfl) rfl) ?_
        refine AOps.passU rfl rfl (by decide) rfl rfl rfl ?_
        refine AOps.passU rfl rfl (by decide) rfl rfl rfl ?_
        refine AOps.passU rfl rfl (by decide) rfl rfl rfl ?_
        refine AOps.passU rfl rfl (by decide) rfl rfl rfl ?_
        refine AOps.passU rfl rfl (by decide) rfl rfl rfl ?_
        refine AOps.step rfl rfl (AOp.of_run (ARun.pickT rfl rfl) ?_)
        refine AOps.nil ?_
        exact ⟨rfl, rfl, rfl, rfl, rfl, rfl, rfl, rfl, trivial⟩
      refine AOps.want rfl rfl (by decide) rfl ?_
      refine AOps.step rfl rfl ?_
      refine AOp.of_run (ARun.fieldAddrL rfl rfl) ?_
      refine AOps.want rfl rfl (by decide) rfl ?_
      refine AOps.step rfl rfl ?_
      refine AOp.of_run (ARun.loadL rfl rfl rfl) ?_
      refine AOps.want rfl rfl (by decide) rfl ?_
      refine AOps.step rfl rfl ?_
      refine AOp.of_run (ARun.lenL rfl rfl) ?_
      refine AOps.want rfl rfl (by decide) rfl ?_
      refine AOps.step rfl rfl ?_
      refine AOp.of_run (ARun.fieldAddrL rfl rfl) ?_
      refine AOps.want rfl rfl (by decide) rfl ?_
      refine AOps.step rfl rfl ?_
      refine AOp.of_run (ARun.loadL rfl rfl rfl) ?_
      refine AOps.want rfl rfl (by decide) rfl ?_
      refine AOps.step rfl rfl ?_
      refine AOp.of_run (ARun.lenL rfl rfl) ?_
      refine AOps.want rfl rfl (by decide) rfl ?_
      refine AOps.step rfl rfl ?_
      refine AOp.of_run (ARun.neq rfl rfl rfl) ?_
      cases g2 : decide ((x.phis.length : Int) = y.phis.length)
      · refine AOps.step rfl rfl (AOp.of_run (ARun.pickF rfl rfl) ?_)
        refine AOps.step rfl rfl ?_
        refine AOp.of_run (ARun.mvV (.inl rfl) rfl) ?_
        refine AOps.passU rfl rfl (by decide) rfl rfl rfl ?_
        refine AOps.passU rfl rfl (by decide) rfl rfl rfl ?_
        refine AOps.passU rfl rfl (by decide) rfl rfl rfl ?_
        refine AOps.passU rfl rfl (by decide) rfl rfl rfl ?_
        refine AOps.passU rfl rfl (by decide) rfl rfl rfl ?_
        refine AOps.passU rfl rfl (by decide) rfl rfl rfl ?_
        refine AOps.passU rfl rfl (by decide) rfl rfl rfl ?_
        refine AOps.step rfl rfl (AOp.of_run (ARun.pickT rfl rfl) ?_)
        refine AOps.step rfl rfl ?_
        refine AOp.of_run (ARun.mvV (.inl rfl) rfl) ?_
        refine AOps.passU rfl rfl (by decide) rfl rfl rfl ?_
        refine AOps.passU rfl rfl (by decide) rfl rfl rfl ?_
        refine AOps.passU rfl rfl (by decide) rfl rfl rfl ?_
        refine AOps.passU rfl rfl (by decide) rfl rfl rfl ?_
        refine AOps.passU rfl rfl (by decide) rfl rfl rfl ?_
        refine AOps.step rfl rfl (AOp.of_run (ARun.pickT rfl rfl) ?_)
        refine AOps.nil ?_
        exact ⟨rfl, rfl, rfl, rfl, rfl, rfl, rfl, rfl, trivial⟩
      refine AOps.step rfl rfl (AOp.of_run (ARun.pickF rfl rfl) ?_)
      refine AOps.step rfl rfl ?_
      refine AOp.of_run (ARun.mvV (.inl rfl) rfl) ?_
      refine AOps.want rfl rfl (by decide) rfl ?_
      refine AOps.step rfl rfl ?_
      refine AOp.of_run (ARun.fieldAddrL rfl rfl) ?_
      refine AOps.want rfl rfl (by decide) rfl ?_
      refine AOps.step rfl rfl ?_
      refine AOp.of_run (ARun.loadL rfl rfl rfl) ?_
      refine AOps.want rfl rfl (by decide) rfl ?_
      refine AOps.step rfl rfl ?_
      refine AOp.of_run (ARun.lenL rfl rfl) ?_
      refine AOps.want rfl rfl (by decide) rfl ?_
      refine AOps.step rfl rfl ?_
      refine AOp.of_run (ARun.fieldAddrL rfl rfl) ?_
      refine AOps.want rfl rfl (by decide) rfl ?_
      refine AOps.step rfl rfl ?_
      refine AOp.of_run (ARun.loadL rfl rfl rfl) ?_
      refine AOps.want rfl rfl (by decide) rfl ?_
      refine AOps.step rfl rfl ?_
      refine AOp.of_run (ARun.lenL rfl rfl) ?_
      refine AOps.want rfl rfl (by decide) rfl ?_
      refine AOps.step rfl rfl ?_
      refine AOp.of_run (ARun.neq rfl rfl rfl) ?_
      cases g3 : decide ((x.nodes.length : Int) = y.nodes.length)
      · refine AOps.step rfl rfl (AOp.of_run (ARun.pickF rfl rfl) ?_)
        refine AOps.step rfl rfl ?_
        refine AOp.of_run (ARun.mvV (.inl rfl) rfl) ?_
        refine AOps.passU rfl rfl (by decide) rfl rfl rfl ?_
        refine AOps.passU rfl rfl (by decide) rfl rfl rfl ?_
        refine AOps.passU rfl rfl (by decide) rfl rfl rfl ?_
        refine AOps.passU rfl rfl (by decide) rfl rfl rfl ?_
        refine AOps.passU rfl rfl (by decide) rfl rfl rfl ?_
        refine AOps.step rfl rfl (AOp.of_run (ARun.pickT rfl rfl) ?_)
        refine AOps.nil ?_
        exact ⟨rfl, rfl, rfl, rfl, rfl, rfl, rfl, rfl, trivial⟩
      refine AOps.step rfl rfl (AOp.of_run (ARun.pickF rfl rfl) ?_)
      refine AOps.step rfl rfl ?_
      refine AOp.of_run (ARun.mvV (.inl rfl) rfl) ?_
      refine AOps.want rfl rfl (by decide) rfl ?_
      refine AOps.step rfl rfl ?_
      refine AOp.of_run (ARun.fieldAddrL rfl rfl) ?_
      refine AOps.want rfl rfl (by decide) rfl ?_
      refine AOps.step rfl rfl ?_
      refine AOp.of_run (ARun.loadNL rfl rfl rfl) ?_
      refine AOps.want rfl rfl (by decide) rfl ?_
      refine AOps.step rfl rfl ?_
      refine AOp.of_run (ARun.fieldAddrL rfl rfl) ?_
      refine AOps.want rfl rfl (by decide) rfl ?_
      refine AOps.step rfl rfl ?_
      refine AOp.of_run (ARun.loadNL rfl rfl rfl) ?_
      refine AOps.want rfl rfl (by decide) rfl ?_
      refine AOps.step rfl rfl (AOp.of_run (ARun.neqAgg (xs := termV x.end_) (ys := termV y.end_) rfl rfl rfl (by kernel_rfl) (by kernel_rfl) (by kernel_rfl) (term_fit _ _) (term_same _ _)) ?_)
      refine AOps.step rfl rfl (AOp.of_run (ARun.pickF rfl rfl) ?_)
      refine AOps.nil ?_
      exact ⟨rfl, rfl, rfl, rfl, rfl, rfl, rfl, rfl, trivial⟩
    rintro _ τ _ ⟨rfl, rfl, hs⟩
    obtain ⟨t3, rfl⟩ := hs.open_
    (repeat (first | refine AC.seq ?_ | refine AC.block ?_ | refine AC.skip ?_)); refine AC.cond rfl (fun hc => ?_) (fun hc => ?_)
    · (repeat (first | refine AC.seq ?_ | refine AC.block ?_ | refine AC.skip ?_))
      refine AC.region ?_
      refine AOps.step rfl rfl ?_
      refine AOp.of_run (ARun.mvV (.inr rfl) rfl) ?_
      refine AOps.nil ?_
      refine AC.ret (ARes.one rfl (RV.V rfl) ⟨hno (hbad fun e => ?_), rfl⟩)
      subst e; simp at hc
    have hq : ((x.pred = y.pred ∧ (x.phis.length : Int) = y.phis.length) ∧ (x.nodes.length : Int) = y.nodes.length) ∧ x.end_ = y.end_ := by simpa using hc
    obtain ⟨⟨⟨q1, q2⟩, q3⟩, q4⟩ := hq
    have q2' : x.phis.length = y.phis.length := by omega
    have q3' : x.nodes.length = y.nodes.length := by omega
    rename_i h
    (repeat (first | refine AC.seq ?_ | refine AC.block ?_ | refine AC.skip ?_ | refine AC.exit ?_))
    (repeat (first | refine AC.seq ?_ | refine AC.block ?_ | refine AC.skip ?_))
    refine AC.region ?_
    refine AOps.step rfl rfl ?_
    refine AOp.of_run (ARun.mvV (.inr rfl) rfl) ?_
    refine AOps.nil ?_
    (repeat (first | refine AC.seq ?_ | refine AC.block ?_ | refine AC.skip ?_ | refine AC.exit ?_))
    refine AC.loop (fun m τ h' => ∃ k : Nat, k ≤ x.phis.length ∧ m = x.phis.length - k ∧ Slots τ [(2, .lp (eIr a) 0), (3, .lp (eIr b) 0), (5, eI i), (6, .lp (ePart x) 0), (7, .lp (ePart y) 0), (8, eI k)] ∧ (∀ j (h1 : j < x.phis.length) (h2 : j < y.phis.length), j < k → x.phis[j] = y.phis[j]) ∧ h' = h) x.phis.length ?_ ?_
    · exact ⟨0, Nat.zero_le _, rfl, ⟨rfl, rfl, rfl, rfl, rfl, rfl, trivial⟩, fun j _ _ hj => by omega, rfl⟩
    rintro m τ h ⟨k, hk, rfl, hs, hph, rfl⟩
    obtain ⟨t4, rfl⟩ := hs.open_
    (repeat (first | refine AC.seq ?_ | refine AC.block ?_ | refine AC.skip ?_))
    refine AC.region ?_
    refine AOps.step rfl rfl ?_
    refine AOp.of_run (ARun.mvV (.inl rfl) rfl) ?_
    refine AOps.step rfl rfl ?_
    refine AOp.of_run (ARun.fieldAddrL rfl rfl) ?_
    refine AOps.step rfl rfl ?_
    refine AOp.of_run (ARun.loadL rfl rfl rfl) ?_
    refine AOps.step rfl rfl ?_
    refine AOp.of_run (ARun.lenL rfl rfl) ?_
    refine AOps.step rfl rfl ?_
    refine AOp.of_run (ARun.lss rfl rfl rfl) ?_
    refine AOps.nil ?_
    (repeat (first | refine AC.seq ?_ | refine AC.block ?_ | refine AC.skip ?_)); refine AC.cond rfl (fun hc => ?_) (fun hc => ?_)
    · have hlt3 : k < x.phis.length := by simpa using hc
      have hlt4 : k < y.phis.length := by omega
      have hb2 : ¬ x.phis[k] = y.phis[k] → ¬ a = b := fun e => hbad fun q => by subst q; exact e rfl
      have hg2 : x.phis[k] = y.phis[k] → ∀ j (h1 : j < x.phis.length) (h2 : j < y.phis.length), j < k + 1 → x.phis[j] = y.phis[j] := fun e j h1 h2 hjk => by
        rcases Nat.lt_or_ge j k with c | c
        · exact hph j h1 h2 c
        · obtain rfl : j = k := by omega
          exact e
      have hfr := zp.frm _ (List.getElem_mem hlt3)
      have u1 : (x.phis.flatMap ePhi)[(k : Int).toNat * 2 + 0]? = some (eI x.phis[k].id) := by rw [Int.toNat_natCast]; exact (get_flatMap ePhi_len hlt3 (by decide)).trans rfl
      have u2 : (y.phis.flatMap ePhi)[(k : Int).toNat * 2 + 0]? = some (eI y.phis[k].id) := by rw [Int.toNat_natCast]; exact (get_flatMap ePhi_len hlt4 (by decide)).trans rfl
      have u3 : (x.phis.flatMap ePhi)[(k : Int).toNat * 2 + 1]? = some (eIs x.phis[k].frm) := by rw [Int.toNat_natCast]; exact (get_flatMap ePhi_len hlt3 (by decide)).trans rfl
      have u4 : (y.phis.flatMap ePhi)[(k : Int).toNat * 2 + 1]? = some (eIs y.phis[k].frm) := by rw [Int.toNat_natCast]; exact (get_flatMap ePhi_len hlt4 (by decide)).trans rfl
      generalize x.phis[k] = p at *
      generalize y.phis[k] = q at *
      (repeat (first | refine AC.seq ?_ | refine AC.block ?_ | refine AC.skip ?_ | refine AC.exit ?_))
      cases g1 : decide (p.id = q.id)
      · (repeat (first | refine AC.seq ?_ | refine AC.block ?_ | refine AC.skip ?_))
        refine AC.drawnH [0, 1, 2, 3, 4, 5, 6, 7, 8, 9, 10, 11, 12, 13, 14, 15, 16, 17, 18, 19, 20, 21, 22, 23, 24, 25, 27, 28] [1, 5, 7, 11, 15, 19, 21, 25] [0, 1, 2, 3, 4, 5, 6, 7, 8, 9, 10, 11, 12, 13, 14, 15, 16, 17, 18, 19, 20, 21, 22, 23, 24, 25, 26, 27, 28] mixed (by kernel_rfl) ?_
        refine RunA.pure rfl rfl rfl rfl rfl (fun _ => ARun.fieldAddrL rfl rfl) ?_
        refine RunA.calm rfl rfl rfl rfl rfl (HSub.refl _) (fun _ hsub => ARun.loadL rfl rfl rfl) ?_
        refine RunA.pure rfl rfl rfl rfl rfl (fun _ => ARun.mvV (.inl rfl) rfl) ?_
        refine RunA.pure rfl rfl rfl rfl rfl (fun _ => ARun.indexAddrL rfl rfl rfl (by omega) (by omega)) ?_
        refine RunA.pure rfl rfl rfl rfl rfl (fun _ => ARun.fieldAddrL rfl rfl) ?_
        refine RunA.calm rfl rfl rfl rfl rfl (HSub.refl _) (fun _ hsub => ARun.loadL rfl rfl u1) ?_
        refine RunA.pure rfl rfl rfl rfl rfl (fun _ => ARun.fieldAddrL rfl rfl) ?_
        refine RunA.calm rfl rfl rfl rfl rfl (HSub.refl _) (fun _ hsub => ARun.loadL rfl rfl rfl) ?_
        refine RunA.pure rfl rfl rfl rfl rfl (fun _ => ARun.mvV (.inl rfl) rfl) ?_
        refine RunA.pure rfl rfl rfl rfl rfl (fun _ => ARun.indexAddrL rfl rfl rfl (by omega) (by omega)) ?_
        refine RunA.pure rfl rfl rfl rfl rfl (fun _ => ARun.fieldAddrL rfl rfl) ?_
        refine RunA.calm rfl rfl rfl rfl rfl (HSub.refl _) (fun _ hsub => ARun.loadL rfl rfl u2) ?_
        refine RunA.pure rfl rfl rfl rfl rfl (fun _ => ARun.neqV rfl rfl rfl g1) ?_
        refine RunA.pure rfl rfl rfl rfl rfl (fun _ => ARun.mvV (.inl rfl) rfl) ?_
        refine RunA.passU rfl rfl rfl rfl (by decide) rfl rfl (fun _ _ => (HSub.refl _)) ?_
        refine RunA.passU rfl rfl rfl rfl (by decide) rfl rfl (fun _ _ => (HSub.refl _)) ?_
        refine RunA.passU rfl rfl rfl rfl (by decide) rfl rfl (fun _ _ => (HSub.refl _)) ?_
        refine RunA.passU rfl rfl rfl rfl (by decide) rfl rfl (fun _ _ => (HSub.refl _)) ?_
        refine RunA.passU rfl rfl rfl rfl (by decide) rfl rfl (fun _ _ => (HSub.refl _)) ?_
        refine RunA.passU rfl rfl rfl rfl (by decide) rfl rfl (fun _ _ => (HSub.refl _)) ?_
        refine RunA.passU rfl rfl rfl rfl (by decide) rfl rfl (fun _ _ => (HSub.refl _)) ?_
        refine RunA.passU rfl rfl rfl rfl (by decide) rfl rfl (fun _ _ => (HSub.refl _)) ?_
        refine RunA.passU rfl rfl rfl rfl (by decide) rfl rfl (fun _ _ => (HSub.refl _)) ?_
        refine RunA.passU rfl rfl rfl rfl (by decide) rfl rfl (fun _ _ => (HSub.refl _)) ?_
        refine RunA.passU rfl rfl rfl rfl (by decide) rfl rfl (fun _ _ => (HSub.refl _)) ?_
        refine RunA.passU rfl rfl rfl rfl (by decide) rfl rfl (fun _ _ => (HSub.refl _)) ?_
        refine RunA.passU rfl rfl rfl rfl (by decide) rfl rfl (fun _ _ => (HSub.refl _)) ?_
        refine RunA.passU rfl rfl rfl rfl (by decide) rfl rfl (fun _ _ => (HSub.refl _)) ?_
        refine RunA.pure rfl rfl rfl rfl rfl (fun _ => ARun.pickT rfl rfl) ?_
        refine RunA.nil ?_
        (repeat (first | refine AC.seq ?_ | refine AC.block ?_ | refine AC.skip ?_)); refine AC.cond rfl (fun hc => ?_) (fun hc => ?_)
        · (repeat (first | refine AC.seq ?_ | refine AC.block ?_ | refine AC.skip ?_))
          refine AC.region ?_
          refine AOps.step rfl rfl ?_
          refine AOp.of_run (ARun.mvV (.inr rfl) rfl) ?_
          refine AOps.nil ?_
          refine AC.ret (ARes.one rfl (RV.V rfl) ⟨hno (hb2 fun e => ?_), rfl⟩)
          subst e; simp at g1
        · cases hc
      cases g2 : decide (p.frm = q.frm)
      · (repeat (first | refine AC.seq ?_ | refine AC.block ?_ | refine AC.skip ?_))
        refine AC.drawnH [0, 1, 2, 3, 4, 5, 6, 7, 8, 9, 10, 11, 12, 13, 14, 15, 16, 17, 18, 19, 20, 21, 22, 23, 24, 25, 27, 28] [1, 5, 7, 11, 15, 19, 21, 25] [0, 1, 2, 3, 4, 5, 6, 7, 8, 9, 10, 11, 12, 13, 14, 15, 16, 17, 18, 19, 20, 21, 22, 23, 24, 25, 26, 27, 28] mixed (by kernel_rfl) ?_
        refine RunA.pure rfl rfl rfl rfl rfl (fun _ => ARun.fieldAddrL rfl rfl) ?_
        refine RunA.calm rfl rfl rfl rfl rfl (HSub.refl _) (fun _ hsub => ARun.loadL rfl rfl rfl) ?_
        refine RunA.pure rfl rfl rfl rfl rfl (fun _ => ARun.mvV (.inl rfl) rfl) ?_
        refine RunA.pure rfl rfl rfl rfl rfl (fun _ => ARun.indexAddrL rfl rfl rfl (by omega) (by omega)) ?_
        refine RunA.pure rfl rfl rfl rfl rfl (fun _ => ARun.fieldAddrL rfl rfl) ?_
        refine RunA.calm rfl rfl rfl rfl rfl (HSub.refl _) (fun _ hsub => ARun.loadL rfl rfl u1) ?_
        refine RunA.pure rfl rfl rfl rfl rfl (fun _ => ARun.fieldAddrL rfl rfl) ?_
        refine RunA.calm rfl rfl rfl rfl rfl (HSub.refl _) (fun _ hsub => ARun.loadL rfl rfl rfl) ?_
        refine RunA.pure rfl rfl rfl rfl rfl (fun _ => ARun.mvV (.inl rfl) rfl) ?_
        refine RunA.pure rfl rfl rfl rfl rfl (fun _ => ARun.indexAddrL rfl rfl rfl (by omega) (by omega)) ?_
        refine RunA.pure rfl rfl rfl rfl rfl (fun _ => ARun.fieldAddrL rfl rfl) ?_
        refine RunA.calm rfl rfl rfl rfl rfl (HSub.refl _) (fun _ hsub => ARun.loadL rfl rfl u2) ?_
        refine RunA.pure rfl rfl rfl rfl rfl (fun _ => ARun.neqV rfl rfl rfl g1) ?_
        refine RunA.pure rfl rfl rfl rfl rfl (fun _ => ARun.mvV (.inl rfl) rfl) ?_
        refine RunA.pureG rfl rfl rfl rfl rfl rfl (by decide) rfl (fun _ => ARun.fieldAddrL rfl rfl) ?_
        refine RunA.calmG rfl rfl rfl rfl rfl rfl (by decide) rfl (HSub.refl _) (fun _ hsub => ARun.loadL rfl rfl rfl) ?_
        refine RunA.pureG rfl rfl rfl rfl rfl rfl (by decide) rfl (fun _ => ARun.mvV (.inl rfl) rfl) ?_
        refine RunA.pureG rfl rfl rfl rfl rfl rfl (by decide) rfl (fun _ => ARun.indexAddrL rfl rfl rfl (by omega) (by omega)) ?_
        refine RunA.pureG rfl rfl rfl rfl rfl rfl (by decide) rfl (fun _ => ARun.fieldAddrL rfl rfl) ?_
        refine RunA.calmG rfl rfl rfl rfl rfl rfl (by decide) rfl (HSub.refl _) (fun _ hsub => ARun.loadL rfl rfl u3) ?_
        refine RunA.pureG rfl rfl rfl rfl rfl rfl (by decide) rfl (fun _ => ARun.fieldAddrL rfl rfl) ?_
        refine RunA.calmG rfl rfl rfl rfl rfl rfl (by decide) rfl (HSub.refl _) (fun _ hsub => ARun.loadL rfl rfl rfl) ?_
        refine RunA.pureG rfl rfl rfl rfl rfl rfl (by decide) rfl (fun _ => ARun.mvV (.inl rfl) rfl) ?_
        refine RunA.pureG rfl rfl rfl rfl rfl rfl (by decide) rfl (fun _ => ARun.indexAddrL rfl rfl rfl (by omega) (by omega)) ?_
        refine RunA.pureG rfl rfl rfl rfl rfl rfl (by decide) rfl (fun _ => ARun.fieldAddrL rfl rfl) ?_
        refine RunA.calmG rfl rfl rfl rfl rfl rfl (by decide) rfl (HSub.refl _) (fun _ hsub => ARun.loadL rfl rfl u4) ?_
        refine RunA.opG rfl rfl rfl rfl rfl (by decide) rfl ?_
        refine AOp.call_ rfl rfl ((Ints_spec p.frm q.frm _ (by omega)).mono ?_)
        rintro _ _ ⟨rfl, rfl⟩; rw [g2]; refine ⟨fun _ q => q, ?_⟩
        refine RunA.pureG rfl rfl rfl rfl rfl rfl (by decide) rfl (fun _ => ARun.not rfl rfl) ?_
        refine RunA.pure rfl rfl rfl rfl rfl (fun _ => ARun.pickF rfl rfl) ?_
        refine RunA.nil ?_
        (repeat (first | refine AC.seq ?_ | refine AC.block ?_ | refine AC.skip ?_)); refine AC.cond rfl (fun hc => ?_) (fun hc => ?_)
        · (repeat (first | refine AC.seq ?_ | refine AC.block ?_ | refine AC.skip ?_))
          refine AC.region ?_
          refine AOps.step rfl rfl ?_
          refine AOp.of_run (ARun.mvV (.inr rfl) rfl) ?_
          refine AOps.nil ?_
          refine AC.ret (ARes.one rfl (RV.V rfl) ⟨hno (hb2 fun e => ?_), rfl⟩)
          subst e; simp at g2
        · cases hc
      (repeat (first | refine AC.seq ?_ | refine AC.block ?_ | refine AC.skip ?_))
      refine AC.drawnH [0, 1, 2, 3, 4, 5, 6, 7, 8, 9, 10, 11, 12, 13, 14, 15, 16, 17, 18, 19, 20, 21, 22, 23, 24, 25, 27, 28] [1, 5, 7, 11, 15, 19, 21, 25] [0, 1, 2, 3, 4, 5, 6, 7, 8, 9, 10, 11, 12, 13, 14, 15, 16, 17, 18, 19, 20, 21, 22, 23, 24, 25, 26, 27, 28] mixed (by kernel_rfl) ?_
      refine RunA.pure rfl rfl rfl rfl rfl (fun _ => ARun.fieldAddrL rfl rfl) ?_
      refine RunA.calm rfl rfl rfl rfl rfl (HSub.refl _) (fun _ hsub => ARun.loadL rfl rfl rfl) ?_
      refine RunA.pure rfl rfl rfl rfl rfl (fun _ => ARun.mvV (.inl rfl) rfl) ?_
      refine RunA.pure rfl rfl rfl rfl rfl (fun _ => ARun.indexAddrL rfl rfl rfl (by omega) (by omega)) ?_
      refine RunA.pure rfl rfl rfl rfl rfl (fun _ => ARun.fieldAddrL rfl rfl) ?_
      refine RunA.calm rfl rfl rfl rfl rfl (HSub.refl _) (fun _ hsub => ARun.loadL rfl rfl u1) ?_
      refine RunA.pure rfl rfl rfl rfl rfl (fun _ => ARun.fieldAddrL rfl rfl) ?_
      refine RunA.calm rfl rfl rfl rfl rfl (HSub.refl _) (fun _ hsub => ARun.loadL rfl rfl rfl) ?_
      refine RunA.pure rfl rfl rfl rfl rfl (fun _ => ARun.mvV (.inl rfl) rfl) ?_
      refine RunA.pure rfl rfl rfl rfl rfl (fun _ => ARun.indexAddrL rfl rfl rfl (by omega) (by omega)) ?_
      refine RunA.pure rfl rfl rfl rfl rfl (fun _ => ARun.fieldAddrL rfl rfl) ?_
      refine RunA.calm rfl rfl rfl rfl rfl (HSub.refl _) (fun _ hsub => ARun.loadL rfl rfl u2) ?_
      refine RunA.pure rfl rfl rfl rfl rfl (fun _ => ARun.neqV rfl rfl rfl g1) ?_
      refine RunA.pure rfl rfl rfl rfl rfl (fun _ => ARun.mvV (.inl rfl) rfl) ?_
      refine RunA.pureG rfl rfl rfl rfl rfl rfl (by decide) rfl (fun _ => ARun.fieldAddrL rfl rfl) ?_
      refine RunA.calmG rfl rfl rfl rfl rfl rfl (by decide) rfl (HSub.refl _) (fun _ hsub => ARun.loadL rfl rfl rfl) ?_
      refine RunA.pureG rfl rfl rfl rfl rfl rfl (by decide) rfl (fun _ => ARun.mvV (.inl rfl) rfl) ?_
      refine RunA.pureG rfl rfl rfl rfl rfl rfl (by decide) rfl (fun _ => ARun.indexAddrL rfl rfl rfl (by omega) (by omega)) ?_
      refine RunA.pureG rfl rfl rfl rfl rfl rfl (by decide) rfl (fun _ => ARun.fieldAddrL rfl rfl) ?_
      refine RunA.calmG rfl rfl rfl rfl rfl rfl (by decide) rfl (HSub.refl _) (fun _ hsub => ARun.loadL rfl rfl u3) ?_
      refine RunA.pureG rfl rfl rfl rfl rfl rfl (by decide) rfl (fun _ => ARun.fieldAddrL rfl rfl) ?_
      refine RunA.calmG rfl rfl rfl rfl rfl rfl (by decide) rfl (HSub.refl _) (fun _ hsub => ARun.loadL rfl rfl rfl) ?_
      refine RunA.pureG rfl rfl rfl rfl rfl rfl (by decide) rfl (fun _ => ARun.mvV (.inl rfl) rfl) ?_
      refine RunA.pureG rfl rfl rfl rfl rfl rfl (by decide) rfl (fun _ => ARun.indexAddrL rfl rfl rfl (by omega) (by omega)) ?_
      refine RunA.pureG rfl rfl rfl rfl rfl rfl (by decide) rfl (fun _ => ARun.fieldAddrL rfl rfl) ?_
      refine RunA.calmG rfl rfl rfl rfl rfl rfl (by decide) rfl (HSub.refl _) (fun _ hsub => ARun.loadL rfl rfl u4) ?_
      refine RunA.opG rfl rfl rfl rfl rfl (by decide) rfl ?_
      refine AOp.call_ rfl rfl ((Ints_spec p.frm q.frm _ (by omega)).mono ?_)
      rintro _ _ ⟨rfl, rfl⟩; rw [g2]; refine ⟨fun _ q => q, ?_⟩
      refine RunA.pureG rfl rfl rfl rfl rfl rfl (by decide) rfl (fun _ => ARun.not rfl rfl) ?_
      refine RunA.pure rfl rfl rfl rfl rfl (fun _ => ARun.pickF rfl rfl) ?_
      refine RunA.nil ?_
      (repeat (first | refine AC.seq ?_ | refine AC.block ?_ | refine AC.skip ?_)); refine AC.cond rfl (fun hc => ?_) (fun hc => ?_)
      · cases hc
      have hpq : p = q := by
        have e1 : p.id = q.id := by simpa using g1
        have e2 : p.frm = q.frm := by simpa using g2
        obtain ⟨p1, p2⟩ := p
        obtain ⟨q1, q2⟩ := q
        dsimp only at e1 e2
        rw [e1, e2]
      (repeat (first | refine AC.seq ?_ | refine AC.block ?_ | refine AC.skip ?_ | refine AC.exit ?_))
      (repeat (first | refine AC.seq ?_ | refine AC.block ?_ | refine AC.skip ?_))
      refine AC.region ?_
      refine AOps.step rfl rfl ?_
      refine AOp.of_run (ARun.mvV (.inl rfl) rfl) ?_
      refine AOps.step rfl rfl ?_
      refine AOp.of_run (ARun.add rfl rfl rfl) ?_
      refine AOps.step rfl rfl ?_
      refine AOp.of_run (ARun.mvV (.inr rfl) rfl) ?_
      refine AOps.nil ?_
      exact ⟨_, by omega, k + 1, hlt3, rfl, ⟨rfl, rfl, rfl, rfl, rfl, eI_wrap (by omega) (by omega) (by omega), trivial⟩, hg2 hpq, rfl⟩
    have hge : k = x.phis.length := by simp at hc; omega
    have hphis : x.phis = y.phis := list_eq_of q2' fun j h1 h2 => hph j h1 h2 (by omega)
    (repeat (first | refine AC.seq ?_ | refine AC.block ?_ | refine AC.skip ?_ | refine AC.exit ?_))
    (repeat (first | refine AC.seq ?_ | refine AC.block ?_ | refine AC.skip ?_))
    refine AC.region ?_
    refine AOps.step rfl rfl ?_
    refine AOp.of_run (ARun.mvV (.inr rfl) rfl) ?_
    refine AOps.nil ?_
    (repeat (first | refine AC.seq ?_ | refine AC.block ?_ | refine AC.skip ?_ | refine AC.exit ?_))
    refine AC.loop (fun m τ h' => ∃ k : Nat, k ≤ x.nodes.length ∧ m = x.nodes.length - k ∧ Slots τ [(2, .lp (eIr a) 0), (3, .lp (eIr b) 0), (5, eI i), (6, .lp (ePart x) 0), (7, .lp (ePart y) 0), (9, eI k)] ∧ (∀ j (h1 : j < x.nodes.length) (h2 : j < y.nodes.length), j < k → x.nodes[j] = y.nodes[j]) ∧ h' = h) x.nodes.length ?_ ?_
    · exact ⟨0, Nat.zero_le _, rfl, ⟨rfl, rfl, rfl, rfl, rfl, rfl, trivial⟩, fun j _ _ hj => by omega, rfl⟩
    rintro m τ h ⟨k, hk, rfl, hs, hnd, rfl⟩
    obtain ⟨t5, rfl⟩ := hs.open_
    (repeat (first | refine AC.seq ?_ | refine AC.block ?_ | refine AC.skip ?_))
    refine AC.region ?_
    refine AOps.step rfl rfl ?_
    refine AOp.of_run (ARun.mvV (.inl rfl) rfl) ?_
    refine AOps.step rfl rfl ?_
    refine AOp.of_run (ARun.fieldAddrL rfl rfl) ?_
    refine AOps.step rfl rfl ?_
    refine AOp.of_run (ARun.loadL rfl rfl rfl) ?_
    refine AOps.step rfl rfl ?_
    refine AOp.of_run (ARun.lenL rfl rfl) ?_
    refine AOps.step rfl rfl ?_
    refine AOp.of_run (ARun.lss rfl rfl rfl) ?_
    refine AOps.nil ?_
    (repeat (first | refine AC.seq ?_ | refine AC.block ?_ | refine AC.skip ?_)); refine AC.cond rfl (fun hc => ?_) (fun hc => ?_)
    · have hlt3 : k < x.nodes.length := by simpa using hc
      have hlt4 : k < y.nodes.length := by omega
      have hb2 : ¬ x.nodes[k] = y.nodes[k] → ¬ a = b := fun e => hbad fun q => by subst q; exact e rfl
      have hg2 : x.nodes[k] = y.nodes[k] → ∀ j (h1 : j < x.nodes.length) (h2 : j < y.nodes.length), j < k + 1 → x.nodes[j] = y.nodes[j] := fun e j h1 h2 hjk => by
        rcases Nat.lt_or_ge j k with c | c
        · exact hnd j h1 h2 c
        · obtain rfl : j = k := by omega
          exact e
      have har := zp.args _ (List.getElem_mem hlt3)
      have u1 : rdc (x.nodes.flatMap eNode) ((k : Int).toNat * 12) 12 = some (eNode x.nodes[k]) := by rw [Int.toNat_natCast]; exact rdc_flatMap eNode_len hlt3
      have u2 : rdc (y.nodes.flatMap eNode) ((k : Int).toNat * 12) 12 = some (eNode y.nodes[k]) := by rw [Int.toNat_natCast]; exact rdc_flatMap eNode_len hlt4
      generalize x.nodes[k] = p at *
      generalize y.nodes[k] = q at *
      have key := fun h1 => NodeR_spec p q h1 (by omega)
      (repeat (first | refine AC.seq ?_ | refine AC.block ?_ | refine AC.skip ?_ | refine AC.exit ?_))
      (repeat (first | refine AC.seq ?_ | refine AC.block ?_ | refine AC.skip ?_))
      refine AC.drawnH [0, 1, 2, 3, 4, 5, 6, 7, 8, 9, 11] [1, 4, 6, 9] [0, 1, 2, 3, 4, 5, 6, 7, 8, 9, 10, 11] mixed (by kernel_rfl) ?_
      refine RunA.pure rfl rfl rfl rfl rfl (fun _ => ARun.fieldAddrL rfl rfl) ?_
      refine RunA.calm rfl rfl rfl rfl rfl (HSub.refl _) (fun _ hsub => ARun.loadL rfl rfl rfl) ?_
      refine RunA.pure rfl rfl rfl rfl rfl (fun _ => ARun.mvV (.inl rfl) rfl) ?_
      refine RunA.pure rfl rfl rfl rfl rfl (fun _ => ARun.indexAddrL rfl rfl rfl (by omega) (by omega)) ?_
      refine RunA.calm rfl rfl rfl rfl rfl (HSub.refl _) (fun _ hsub => ARun.loadNL rfl rfl u1) ?_
      refine RunA.pure rfl rfl rfl rfl rfl (fun _ => ARun.fieldAddrL rfl rfl) ?_
      refine RunA.calm rfl rfl rfl rfl rfl (HSub.refl _) (fun _ hsub => ARun.loadL rfl rfl rfl) ?_
      refine RunA.pure rfl rfl rfl rfl rfl (fun _ => ARun.mvV (.inl rfl) rfl) ?_
      refine RunA.pure rfl rfl rfl rfl rfl (fun _ => ARun.indexAddrL rfl rfl rfl (by omega) (by omega)) ?_
      refine RunA.calm rfl rfl rfl rfl rfl (HSub.refl _) (fun _ hsub => ARun.loadNL rfl rfl u2) ?_
      refine RunA.op rfl rfl rfl rfl ?_
      refine AOp.call_ rfl rfl ((key _).mono ?_)
      rintro _ _ ⟨rfl, rfl⟩; rw [nodeB_eq]; refine ⟨fun _ q => q, ?_⟩
      refine RunA.pure rfl rfl rfl rfl rfl (fun _ => ARun.not rfl rfl) ?_
      refine RunA.nil ?_
      (repeat (first | refine AC.seq ?_ | refine AC.block ?_ | refine AC.skip ?_)); refine AC.cond rfl (fun hc => ?_) (fun hc => ?_)
      · (repeat (first | refine AC.seq ?_ | refine AC.block ?_ | refine AC.skip ?_))
        refine AC.region ?_
        refine AOps.step rfl rfl ?_
        refine AOp.of_run (ARun.mvV (.inr rfl) rfl) ?_
        refine AOps.nil ?_
        refine AC.ret (ARes.one rfl (RV.V rfl) ⟨hno (hb2 fun e => ?_), rfl⟩)
        subst e; simp at hc
      have hpq : p = q := by simpa using hc
      (repeat (first | refine AC.seq ?_ | refine AC.block ?_ | refine AC.skip ?_ | refine AC.exit ?_))
      (repeat (first | refine AC.seq ?_ | refine AC.block ?_ | refine AC.skip ?_))
      refine AC.region ?_
      refine AOps.step rfl rfl ?_
      refine AOp.of_run (ARun.mvV (.inl rfl) rfl) ?_
      refine AOps.step rfl rfl ?_
      refine AOp.of_run (ARun.add rfl rfl rfl) ?_
      refine AOps.step rfl rfl ?_
      refine AOp.of_run (ARun.mvV (.inr rfl) rfl) ?_
      refine AOps.nil ?_
      exact ⟨_, by omega, k + 1, hlt3, rfl, ⟨rfl, rfl, rfl, rfl, rfl, eI_wrap (by omega) (by omega) (by omega), trivial⟩, hg2 hpq, rfl⟩
    have hge2 : k = x.nodes.length := by simp at hc; omega
    have hnodes : x.nodes = y.nodes := list_eq_of q3' fun j h1 h2 => hnd j h1 h2 (by omega)
    have hxy : x = y := by
      obtain ⟨x1, x2, x3, x4⟩ := x
      obtain ⟨y1, y2, y3, y4⟩ := y
      dsimp only at q1 hphis hnodes q4
      rw [q1, hphis, hnodes, q4]
    (repeat (first | refine AC.seq ?_ | refine AC.block ?_ | refine AC.skip ?_ | refine AC.exit ?_))
    (repeat (first | refine AC.seq ?_ | refine AC.block ?_ | refine AC.skip ?_))
    refine AC.region ?_
    refine AOps.step rfl rfl ?_
    refine AOp.of_run (ARun.mvV (.inl rfl) rfl) ?_
    refine AOps.step rfl rfl ?_
    refine AOp.of_run (ARun.add rfl rfl rfl) ?_
    refine AOps.step rfl rfl ?_
    refine AOp.of_run (ARun.mvV (.inr rfl) rfl) ?_
    refine AOps.nil ?_
    exact ⟨_, by omega, i + 1, hlt, rfl, ⟨rfl, rfl, eI_wrap (by omega) (by omega) (by omega), trivial⟩, hgood hxy, rfl⟩
  have hge : i = a.parts.length := by simp at hc; omega
  (repeat (first | refine AC.seq ?_ | refine AC.block ?_ | refine AC.skip ?_ | refine AC.exit ?_))
  (repeat (first | refine AC.seq ?_ | refine AC.block ?_ | refine AC.skip ?_))
  refine AC.region ?_
  refine AOps.step rfl rfl ?_
  refine AOp.of_run (ARun.mvV (.inr rfl) rfl) ?_
  refine AOps.nil ?_
  refine AC.ret (ARes.one rfl (RV.V rfl) ⟨?_, rfl⟩)
  have hab : a = b := by
    have hp : a.parts = b.parts := list_eq_of hpl fun j h1 h2 => hall j h1 h2 (by omega)
    obtain ⟨a1, a2⟩ := a
    obtain ⟨b1, b2⟩ := b
    have h1 : a2 = b2 := hv.1
    have h2 : a1 = b1 := hp
    rw [h1, h2]
  rw [decide_eq_true hab]; rfl
end Go.Proofs.Ytilanageangegaa

/- Walks of the document's answer for layer 16 (6): places. -/
set_option linter.unusedVariables false
namespace Go.Proofs.Ytilanageangegaa
open Go.Ab

def mkR (L : List DPl) (id part at_ : Int) : Option (List DPl) := make1L L id part at_
theorem mkR_len {L L' : List DPl} {id part at_ : Int} (h : mkR L id part at_ = some L') : L'.length = L.length := by
  unfold mkR make1L at h
  split at h
  · cases h
  · injection h with h; rw [← h]; simp
def zPl : DPl := ⟨false, 0, 0⟩

set_option maxRecDepth 10000 in
theorem places_spec (f : DIr) (h : AHeap) (hv : 0 ≤ f.values) (hv2 : f.values ≤ 65536) (z : Sz f) :
    Sp Try.prog 43 [.agg (eIr f)] h (fun r h' => h' = h ∧ ((∃ L, allMk mkR (List.replicate f.values.toNat zPl) f = some L ∧ r = .tup [.ls f.values.toNat (L.flatMap ePl), eB true]) ∨ (allMk mkR (List.replicate f.values.toNat zPl) f = none ∧ ∃ x, r = .tup [x, eB false]))) := by
  have hvn : (f.values.toNat : Int) = f.values := Int.toNat_of_nonneg hv
  have hz := z.parts
  refine Sp.of Try.func43 rfl rfl (by show 1 ≤ 79; decide) ?_
  (repeat (first | refine AC.seq ?_ | refine AC.block ?_ | refine AC.skip ?_))
  refine AC.region ?_
  refine AOps.step rfl rfl ?_
  refine AOp.boxL rfl rfl ?_
  refine AOps.step rfl rfl ?_
  refine AOp.of_run (ARun.mvV (.inr rfl) rfl) ?_
  refine AOps.step rfl rfl ?_
  refine AOp.of_run (ARun.mvV (.inr rfl) rfl) ?_
  refine AOps.nil ?_
  (repeat (first | refine AC.seq ?_ | refine AC.block ?_ | refine AC.skip ?_))
  refine AC.region ?_
  refine AOps.step rfl rfl ?_
  refine AOp.of_run (ARun.fieldAddrL rfl rfl) ?_
  refine AOps.step rfl rfl ?_
  refine AOp.of_run (ARun.loadL rfl rfl rfl) ?_
  refine AOps.step rfl rfl (AOp.makeSlice rfl rfl rfl (by omega) (by omega) (by omega) (fun b hb => ?_))
  refine AOps.step rfl rfl ?_
  refine AOp.of_run (ARun.mvV (.inr rfl) rfl) ?_
  refine AOps.nil ?_
  generalize f.values.toNat = n at *
  rw [show zrep [.v (.bool false), .v (.int .i64 0), .v (.int .i64 0)] 3 (n * 3) = (List.replicate n zPl).flatMap ePl from zrep_flatMap ePlace_len zPl n]
  (repeat (first | refine AC.seq ?_ | refine AC.block ?_ | refine AC.skip ?_))
  refine AC.region ?_
  refine AOps.step rfl rfl ?_
  refine AOp.of_run (ARun.mvV (.inr rfl) rfl) ?_
  refine AOps.nil ?_
  (repeat (first | refine AC.seq ?_ | refine AC.block ?_ | refine AC.skip ?_ | refine AC.exit ?_))
  refine AC.loop (fun m τ h' => ∃ (i : Nat) (L : List DPl), i ≤ f.parts.length ∧ m = f.parts.length - i ∧ Slots τ [(1, .lp (eIr f) 0), (4, .v (.slice (some ⟨b, 0, none⟩) n n)), (5, eI i)] ∧ L.length = n ∧ (f.parts.zipIdx.take i).foldlM (partMk mkR) (List.replicate n zPl) = some L ∧ h' = hset h b (some (.cells (L.flatMap ePl) 167 (n * 3)))) f.parts.length ?_ ?_
  · exact ⟨0, _, Nat.zero_le _, rfl, ⟨rfl, rfl, rfl, trivial⟩, by simp, rfl, rfl⟩
  rintro m τ h1 ⟨i, L, hi, rfl, hs, hL, hfold, rfl⟩
  obtain ⟨t0, rfl⟩ := hs.open_
  (repeat (first | refine AC.seq ?_ | refine AC.block ?_ | refine AC.skip ?_))
  refine AC.region ?_
  refine AOps.step rfl rfl ?_
  refine AOp.of_run (ARun.mvV (.inl rfl) rfl) ?_
  refine AOps.step rfl rfl ?_
  refine AOp.of_run (ARun.fieldAddrL rfl rfl) ?_
  refine AOps.step rfl rfl ?_
  refine AOp.of_run (ARun.loadL rfl rfl rfl) ?_
  refine AOps.step rfl rfl ?_
  refine AOp.of_run (ARun.lenL rfl rfl) ?_
  refine AOps.step rfl rfl ?_
  refine AOp.of_run (ARun.lss rfl rfl rfl) ?_
  refine AOps.nil ?_
  (repeat (first | refine AC.seq ?_ | refine AC.block ?_ | refine AC.skip ?_)); refine AC.cond rfl (fun hc => ?_) (fun hc => ?_)
  · have hlt : i < f.parts.length := by simpa using hc
    have hno : partMk mkR L (f.parts[i], i) = none → allMk mkR (List.replicate n zPl) f = none := fun e => by
      obtain ⟨h2, e2⟩ := zip_get hlt
      refine foldlM_none (k := i + 1) ?_
      rw [foldlM_take_succ _ _ h2, e2]
      show ((f.parts.zipIdx.take i).foldlM (partMk mkR) (List.replicate n zPl)).bind _ = none
      rw [hfold]; exact e
    have hyes : ∀ L', partMk mkR L (f.parts[i], i) = some L' → (f.parts.zipIdx.take (i + 1)).foldlM (partMk mkR) (List.replicate n zPl) = some L' := fun L' e => by
      obtain ⟨h2, e2⟩ := zip_get hlt
      rw [foldlM_take_succ _ _ h2, e2, hfold]; exact e
    have zp := z.part _ (List.getElem_mem hlt)
    have hrd : rdc (f.parts.flatMap ePart) ((i : Int).toNat * 10) 10 = some (ePart f.parts[i]) := by rw [Int.toNat_natCast]; exact rdc_flatMap ePart_len hlt
    generalize f.parts[i] = p at *
    have hp1 := zp.phis
    have hp2 := zp.nodes
    (repeat (first | refine AC.seq ?_ | refine AC.block ?_ | refine AC.skip ?_ | refine AC.exit ?_))
    (repeat (first | refine AC.seq ?_ | refine AC.block ?_ | refine AC.skip ?_))
    refine AC.region ?_
    refine AOps.step rfl rfl ?_
    refine AOp.of_run (ARun.fieldAddrL rfl rfl) ?_
    refine AOps.step rfl rfl ?_
    refine AOp.of_run (ARun.loadL rfl rfl rfl) ?_
    refine AOps.step rfl rfl ?_
    refine AOp.of_run (ARun.mvV (.inl rfl) rfl) ?_
    refine AOps.step rfl rfl ?_
    refine AOp.of_run (ARun.indexAddrL rfl rfl rfl (by omega) (by omega)) ?_
    refine AOps.step rfl rfl (AOp.of_run (ARun.loadNL rfl rfl hrd) ?_)
    refine AOps.step rfl rfl (AOp.alloc rfl (fun b5 hb5 => ?_))
    refine AOps.step rfl rfl (AOp.store rfl rfl (hset_same _ _ _) rfl ?_)
    refine AOps.nil ?_
    refine AC.le (Le.freezeNew (d := 6) hb5 rfl) ?_
    (repeat (first | refine AC.seq ?_ | refine AC.block ?_ | refine AC.skip ?_))
    refine AC.region ?_
    refine AOps.step rfl rfl ?_
    refine AOp.of_run (ARun.mvV (.inr rfl) rfl) ?_
    refine AOps.nil ?_
    (repeat (first | refine AC.seq ?_ | refine AC.block ?_ | refine AC.skip ?_ | refine AC.exit ?_))
    refine AC.loop (fun m τ h' => ∃ (k : Nat) (L' : List DPl), k ≤ p.phis.length ∧ m = p.phis.length - k ∧ Slots τ [(1, .lp (eIr f) 0), (4, .v (.slice (some ⟨b, 0, none⟩) n n)), (5, eI i), (6, .lp (ePart p) 0), (7, eI k)] ∧ L'.length = n ∧ (p.phis.take k).foldlM (phiMk mkR i) L = some L' ∧ h' = hset h b (some (.cells (L'.flatMap ePl) 167 (n * 3)))) p.phis.length ?_ ?_
    · exact ⟨0, _, Nat.zero_le _, rfl, ⟨rfl, rfl, rfl, rfl, rfl, trivial⟩, hL, rfl, rfl⟩
    rintro m τ h2 ⟨k, L', hk, rfl, hs, hL', hf2, rfl⟩
    obtain ⟨t1, rfl⟩ := hs.open_
    (repeat (first | refine AC.seq ?_ | refine AC.block ?_ | refine AC.skip ?_))
    refine AC.region ?_
    refine AOps.step rfl rfl ?_
    refine AOp.of_run (ARun.mvV (.inl rfl) rfl) ?_
    refine AOps.step rfl rfl ?_
    refine AOp.of_run (ARun.fieldAddrL rfl rfl) ?_
    refine AOps.step rfl rfl ?_
    refine AOp.of_run (ARun.loadL rfl rfl rfl) ?_
    refine AOps.step rfl rfl ?_
    refine AOp.of_run (ARun.lenL rfl rfl) ?_
    refine AOps.step rfl rfl ?_
    refine AOp.of_run (ARun.lss rfl rfl rfl) ?_
    refine AOps.nil ?_
    (repeat (first | refine AC.seq ?_ | refine AC.block ?_ | refine AC.skip ?_)); refine AC.cond rfl (fun hc => ?_) (fun hc => ?_)
    · have hlt2 : k < p.phis.length := by simpa using hc
      have hstep := foldlM_take_succ (phiMk mkR i) L hlt2
      rw [hf2] at hstep
      (repeat (first | refine AC.seq ?_ | refine AC.block ?_ | refine AC.skip ?_ | refine AC.exit ?_))
      (repeat (first | refine AC.seq ?_ | refine AC.block ?_ | refine AC.skip ?_))
      refine AC.region ?_
      refine AOps.step rfl rfl ?_
      refine AOp.of_run (ARun.mvV (.inl rfl) rfl) ?_
      refine AOps.step rfl rfl ?_
      refine AOp.of_run (ARun.fieldAddrL rfl rfl) ?_
      refine AOps.step rfl rfl ?_
      refine AOp.of_run (ARun.loadL rfl rfl rfl) ?_
      refine AOps.step rfl rfl ?_
      refine AOp.of_run (ARun.mvV (.inl rfl) rfl) ?_
      refine AOps.step rfl rfl ?_
      refine AOp.of_run (ARun.indexAddrL rfl rfl rfl (by omega) (by omega)) ?_
      refine AOps.step rfl rfl ?_
      refine AOp.of_run (ARun.fieldAddrL rfl rfl) ?_
      refine AOps.step rfl rfl ?_
      refine AOp.of_run (ARun.loadL rfl rfl ((get_flatMap ePhi_len hlt2 (by decide)).trans rfl)) ?_
      refine AOps.step rfl rfl ?_
      refine AOp.of_run (ARun.mvV (.inl rfl) rfl) ?_
      refine AOps.step rfl rfl (AOp.call_ rfl rfl ((make1_spec L' n b p.phis[k].id i 0 _ hL' (hset_same _ _ _)).mono ?_))
      rintro _ _ ⟨rfl, rfl⟩
      rw [hset_hset]
      cases hm : make1L L' p.phis[k].id i 0 with
      | none =>
        refine AOps.step rfl rfl ?_
        refine AOp.of_run (ARun.not rfl rfl) ?_
        refine AOps.nil ?_
        (repeat (first | refine AC.seq ?_ | refine AC.block ?_ | refine AC.skip ?_)); refine AC.cond rfl (fun hc => ?_) (fun hc => ?_)
        · (repeat (first | refine AC.seq ?_ | refine AC.block ?_ | refine AC.skip ?_))
          refine AC.region ?_
          refine AOps.step rfl rfl ?_
          refine AOp.of_run (ARun.mvV (.inr rfl) rfl) ?_
          refine AOps.step rfl rfl ?_
          refine AOp.of_run (ARun.mvV (.inr rfl) rfl) ?_
          refine AOps.nil ?_
          refine AC.ret (ARes.le (Le.sub (h' := h) (fun c q e => ?_)) (ARes.two rfl RV.tmp RV.tmp ⟨rfl, .inr ⟨hno ?_, _, rfl⟩⟩))
          · rw [hset_ne _ _ (fresh_of (h := hset h c (some q)) (hset_same _ _ _) (by by_cases hcb : b = c; · subst hcb; rw [hb] at e; cases e
                                                                                     · rw [hset_ne _ _ hcb]; exact hb)).symm]; exact e
          · unfold partMk
            rw [foldlM_none (k := k + 1) (hstep.trans hm)]; rfl
        · cases hc
      | some L2 =>
        have hL2 := mkR_len hm
        refine AOps.step rfl rfl ?_
        refine AOp.of_run (ARun.not rfl rfl) ?_
        refine AOps.nil ?_
        (repeat (first | refine AC.seq ?_ | refine AC.block ?_ | refine AC.skip ?_)); refine AC.cond rfl (fun hc => ?_) (fun hc => ?_)
        · cases hc
        (repeat (first | refine AC.seq ?_ | refine AC.block ?_ | refine AC.skip ?_ | refine AC.exit ?_))
        (repeat (first | refine AC.seq ?_ | refine AC.block ?_ | refine AC.skip ?_))
        refine AC.region ?_
        refine AOps.step rfl rfl ?_
        refine AOp.of_run (ARun.mvV (.inl rfl) rfl) ?_
        refine AOps.step rfl rfl ?_
        refine AOp.of_run (ARun.add rfl rfl rfl) ?_
        refine AOps.step rfl rfl ?_
        refine AOp.of_run (ARun.mvV (.inr rfl) rfl) ?_
        refine AOps.nil ?_
        exact ⟨_, by omega, k + 1, L2, hlt2, rfl, ⟨rfl, rfl, rfl, rfl, eI_wrap (by omega) (by omega) (by omega), trivial⟩, by omega, hstep.trans hm, rfl⟩
    have hge : k = p.phis.length := by simp at hc; omega
    subst hge
    rw [foldlM_all (Nat.le_refl _)] at hf2
    have hpart : partMk mkR L (p, i) = p.nodes.zipIdx.foldlM (nodeMk mkR i) L' := by
      unfold partMk
      show (p.phis.foldlM (phiMk mkR i) L).bind _ = _
      rw [hf2]; rfl
    rw [hpart] at hno hyes
    (repeat (first | refine AC.seq ?_ | refine AC.block ?_ | refine AC.skip ?_ | refine AC.exit ?_))
    (repeat (first | refine AC.seq ?_ | refine AC.block ?_ | refine AC.skip ?_))
    refine AC.region ?_
    refine AOps.step rfl rfl ?_
    refine AOp.of_run (ARun.mvV (.inr rfl) rfl) ?_
    refine AOps.nil ?_
    (repeat (first | refine AC.seq ?_ | refine AC.block ?_ | refine AC.skip ?_ | refine AC.exit ?_))
    refine AC.loop (fun m τ h' => ∃ (k : Nat) (L3 : List DPl), k ≤ p.nodes.length ∧ m = p.nodes.length - k ∧ Slots τ [(1, .lp (eIr f) 0), (4, .v (.slice (some ⟨b, 0, none⟩) n n)), (5, eI i), (6, .lp (ePart p) 0), (8, eI k)] ∧ L3.length = n ∧ (p.nodes.zipIdx.take k).foldlM (nodeMk mkR i) L' = some L3 ∧ h' = hset h b (some (.cells (L3.flatMap ePl) 167 (n * 3)))) p.nodes.length ?_ ?_
    · exact ⟨0, _, Nat.zero_le _, rfl, ⟨rfl, rfl, rfl, rfl, rfl, trivial⟩, hL', rfl, rfl⟩
    rintro m τ h3 ⟨k, L3, hk, rfl, hs, hL3, hf3, rfl⟩
    obtain ⟨t2, rfl⟩ := hs.open_
    (repeat (first | refine AC.seq ?_ | refine AC.block ?_ | refine AC.skip ?_))
    refine AC.region ?_
    refine AOps.step rfl rfl ?_
    refine AOp.of_run (ARun.mvV (.inl rfl) rfl) ?_
    refine AOps.step rfl rfl ?_
    refine AOp.of_run (ARun.fieldAddrL rfl rfl) ?_
    refine AOps.step rfl rfl ?_
    refine AOp.of_run (ARun.loadL rfl rfl rfl) ?_
    refine AOps.step rfl rfl ?_
    refine AOp.of_run (ARun.lenL rfl rfl) ?_
    refine AOps.step rfl rfl ?_
    refine AOp.of_run (ARun.lss rfl rfl rfl) ?_
    refine AOps.nil ?_
    (repeat (first | refine AC.seq ?_ | refine AC.block ?_ | refine AC.skip ?_)); refine AC.cond rfl (fun hc => ?_) (fun hc => ?_)
    · have hlt3 : k < p.nodes.length := by simpa using hc
      obtain ⟨h2, e2⟩ := zip_get hlt3
      have hstep := foldlM_take_succ (nodeMk mkR i) L' h2
      rw [hf3, e2] at hstep
      have g1 : rdc (p.nodes.flatMap eNode) ((k : Int).toNat * 12) 12 = some (eNode p.nodes[k]) := by rw [Int.toNat_natCast]; exact rdc_flatMap eNode_len hlt3
      have him := zp.imm _ (List.getElem_mem hlt3)
      have har := zp.args _ (List.getElem_mem hlt3)
      have hw : IntKind.i64.wrap ((k : Int) + 1) = k + 1 := by rw [wrap_i64 (by omega) (by omega)]
      have hbad : nodeMk mkR i L3 (p.nodes[k], k) = none → allMk mkR (List.replicate n zPl) f = none := fun e => hno (foldlM_none (k := k + 1) (hstep.trans e))
      have hcont : ∀ L4, nodeMk mkR i L3 (p.nodes[k], k) = some L4 → (p.nodes.zipIdx.take (k + 1)).foldlM (nodeMk mkR i) L' = some L4 := fun L4 e => hstep.trans e
      have hsub : ∀ C, HSub h (hset h b C) := fun C c q e => by
        have : c ≠ b := by rintro rfl; rw [hb] at e; cases e
        rw [hset_ne _ _ this]; exact e
      (repeat (first | refine AC.seq ?_ | refine AC.block ?_ | refine AC.skip ?_ | refine AC.exit ?_))
      (repeat (first | refine AC.seq ?_ | refine AC.block ?_ | refine AC.skip ?_))
      refine AC.region ?_
      refine AOps.step rfl rfl ?_
      refine AOp.of_run (ARun.fieldAddrL rfl rfl) ?_
      refine AOps.step rfl rfl ?_
      refine AOp.of_run (ARun.loadL rfl rfl rfl) ?_
      refine AOps.step rfl rfl ?_
      refine AOp.of_run (ARun.mvV (.inl rfl) rfl) ?_
      refine AOps.step rfl rfl ?_
      refine AOp.of_run (ARun.indexAddrL rfl rfl rfl (by omega) (by omega)) ?_
      refine AOps.step rfl rfl (AOp.of_run (ARun.loadNL rfl rfl g1) ?_)
      refine AOps.step rfl rfl (AOp.call_ rfl rfl ((nodeR_spec p.nodes[k] _ him (by omega)).mono ?_))
      rintro _ _ ⟨rfl, rfl⟩
      have g2 : (p.nodes.flatMap eNode)[(k : Int).toNat * 12 + 0]? = some (eI p.nodes[k].op) := by rw [Int.toNat_natCast]; exact (get_flatMap eNode_len hlt3 (by decide)).trans rfl
      have g3 : (p.nodes.flatMap eNode)[(k : Int).toNat * 12 + 1]? = some (eI p.nodes[k].id) := by rw [Int.toNat_natCast]; exact (get_flatMap eNode_len hlt3 (by decide)).trans rfl
      generalize p.nodes[k] = x at *
      unfold nodeMk at hbad hcont
      cases hr : rightB x
      · rw [hr] at hbad
        refine AOps.step rfl rfl ?_
        refine AOp.of_run (ARun.not rfl rfl) ?_
        refine AOps.step rfl rfl ?_
        refine AOp.of_run (ARun.mvV (.inl rfl) rfl) ?_
        refine AOps.passU rfl rfl (by decide) rfl rfl rfl ?_
        refine AOps.passU rfl rfl (by decide) rfl rfl rfl ?_
        refine AOps.passU rfl rfl (by decide) rfl rfl rfl ?_
        refine AOps.passU rfl rfl (by decide) rfl rfl rfl ?_
        refine AOps.passU rfl rfl (by decide) rfl rfl rfl ?_
        refine AOps.passU rfl rfl (by decide) rfl rfl rfl ?_
        refine AOps.passU rfl rfl (by decide) rfl rfl rfl ?_
        refine AOps.passU rfl rfl (by decide) rfl rfl rfl ?_
        refine AOps.passU rfl rfl (by decide) rfl rfl rfl ?_
        refine AOps.passU rfl rfl (by decide) rfl rfl rfl ?_
        refine AOps.passU rfl rfl (by decide) rfl rfl rfl ?_
        refine AOps.passU rfl rfl (by decide) rfl rfl rfl ?_
        refine AOps.passU rfl rfl (by decide) rfl rfl rfl ?_
        refine AOps.passU rfl rfl (by decide) rfl rfl rfl ?_
        refine AOps.passU rfl rfl (by decide) rfl rfl rfl ?_
        refine AOps.passU rfl rfl (by decide) rfl rfl rfl ?_
        refine AOps.passU rfl rfl (by decide) rfl rfl rfl ?_
        refine AOps.passU rfl rfl (by decide) rfl rfl rfl ?_
        refine AOps.passU rfl rfl (by decide) rfl rfl rfl ?_
        refine AOps.passU rfl rfl (by decide) rfl rfl rfl ?_
        refine AOps.passU rfl rfl (by decide) rfl rfl rfl ?_
        refine AOps.step rfl rfl (AOp.of_run (ARun.pickT rfl rfl) ?_)
        refine AOps.nil ?_
        (repeat (first | refine AC.seq ?_ | refine AC.block ?_ | refine AC.skip ?_)); refine AC.cond rfl (fun hc => ?_) (fun hc => ?_)
        · (repeat (first | refine AC.seq ?_ | refine AC.block ?_ | refine AC.skip ?_))
          refine AC.region ?_
          refine AOps.step rfl rfl ?_
          refine AOp.of_run (ARun.mvV (.inr rfl) rfl) ?_
          refine AOps.step rfl rfl ?_
          refine AOp.of_run (ARun.mvV (.inr rfl) rfl) ?_
          refine AOps.nil ?_
          refine AC.ret (ARes.le (Le.sub (hsub _)) (ARes.two rfl RV.tmp RV.tmp ⟨rfl, .inr ⟨hbad rfl, _, rfl⟩⟩))
        · cases hc
      rw [hr] at hbad hcont
      simp only [if_true] at hbad hcont
      refine AOps.step rfl rfl ?_
      refine AOp.of_run (ARun.not rfl rfl) ?_
      refine AOps.step rfl rfl ?_
      refine AOp.of_run (ARun.mvV (.inl rfl) rfl) ?_
      refine AOps.want rfl rfl (by decide) rfl ?_
      refine AOps.step rfl rfl ?_
      refine AOp.of_run (ARun.fieldAddrL rfl rfl) ?_
      refine AOps.want rfl rfl (by decide) rfl ?_
      refine AOps.step rfl rfl ?_
      refine AOp.of_run (ARun.loadL rfl rfl rfl) ?_
      refine AOps.want rfl rfl (by decide) rfl ?_
      refine AOps.step rfl rfl ?_
      refine AOp.of_run (ARun.mvV (.inl rfl) rfl) ?_
      refine AOps.want rfl rfl (by decide) rfl ?_
      refine AOps.step rfl rfl ?_
      refine AOp.of_run (ARun.indexAddrL rfl rfl rfl (by omega) (by omega)) ?_
      refine AOps.want rfl rfl (by decide) rfl ?_
      refine AOps.step rfl rfl ?_
      refine AOp.of_run (ARun.fieldAddrL rfl rfl) ?_
      refine AOps.want rfl rfl (by decide) rfl ?_
      refine AOps.step rfl rfl (AOp.of_run (ARun.loadL rfl rfl g2) ?_)
      refine AOps.want rfl rfl (by decide) rfl ?_
      refine AOps.step rfl rfl ?_
      refine AOp.of_run (ARun.neq rfl rfl rfl) ?_
      cases hop : decide (x.op = 6)
      · have hop' : x.op ≠ 6 := by simpa using hop
        rw [if_neg hop'] at hbad hcont
        refine AOps.want rfl rfl (by decide) rfl ?_
        refine AOps.step rfl rfl ?_
        refine AOp.of_run (ARun.mvV (.inl rfl) rfl) ?_
        refine AOps.want rfl rfl (by decide) rfl ?_
        refine AOps.step rfl rfl ?_
        refine AOp.of_run (ARun.mvV (.inl rfl) rfl) ?_
        refine AOps.want rfl rfl (by decide) rfl ?_
        refine AOps.step rfl rfl ?_
        refine AOp.of_run (ARun.fieldAddrL rfl rfl) ?_
        refine AOps.want rfl rfl (by decide) rfl ?_
        refine AOps.step rfl rfl ?_
        refine AOp.of_run (ARun.loadL rfl rfl rfl) ?_
        refine AOps.want rfl rfl (by decide) rfl ?_
        refine AOps.step rfl rfl ?_
        refine AOp.of_run (ARun.mvV (.inl rfl) rfl) ?_
        refine AOps.want rfl rfl (by decide) rfl ?_
        refine AOps.step rfl rfl ?_
        refine AOp.of_run (ARun.indexAddrL rfl rfl rfl (by omega) (by omega)) ?_
        refine AOps.want rfl rfl (by decide) rfl ?_
        refine AOps.step rfl rfl ?_
        refine AOp.of_run (ARun.fieldAddrL rfl rfl) ?_
        refine AOps.want rfl rfl (by decide) rfl ?_
        refine AOps.step rfl rfl (AOp.of_run (ARun.loadL rfl rfl g3) ?_)
        refine AOps.want rfl rfl (by decide) rfl ?_
        refine AOps.step rfl rfl ?_
        refine AOp.of_run (ARun.mvV (.inl rfl) rfl) ?_
        refine AOps.want rfl rfl (by decide) rfl ?_
        refine AOps.step rfl rfl ?_
        refine AOp.of_run (ARun.mvV (.inl rfl) rfl) ?_
        refine AOps.want rfl rfl (by decide) rfl ?_
        refine AOps.step rfl rfl ?_
        refine AOp.of_run (ARun.add rfl rfl rfl) ?_
        rw [hw]
        refine AOps.want rfl rfl (by decide) rfl ?_
        refine AOps.step rfl rfl (AOp.call_ rfl rfl ((make1_spec L3 n b x.id i (k + 1) _ hL3 (hset_same _ _ _)).mono ?_))
        rintro _ _ ⟨rfl, rfl⟩
        rw [hset_hset]
        cases hm : make1L L3 x.id i (k + 1) with
        | none =>
          refine AOps.want rfl rfl (by decide) rfl ?_
          refine AOps.step rfl rfl ?_
          refine AOp.of_run (ARun.not rfl rfl) ?_
          refine AOps.want rfl rfl (by decide) rfl ?_
          refine AOps.step rfl rfl (AOp.of_run (ARun.pickT rfl rfl) ?_)
          refine AOps.step rfl rfl (AOp.of_run (ARun.pickF rfl rfl) ?_)
          refine AOps.nil ?_
          (repeat (first | refine AC.seq ?_ | refine AC.block ?_ | refine AC.skip ?_)); refine AC.cond rfl (fun hc => ?_) (fun hc => ?_)
          · (repeat (first | refine AC.seq ?_ | refine AC.block ?_ | refine AC.skip ?_))
            refine AC.region ?_
            refine AOps.step rfl rfl ?_
            refine AOp.of_run (ARun.mvV (.inr rfl) rfl) ?_
            refine AOps.step rfl rfl ?_
            refine AOp.of_run (ARun.mvV (.inr rfl) rfl) ?_
            refine AOps.nil ?_
            refine AC.ret (ARes.le (Le.sub (hsub _)) (ARes.two rfl RV.tmp RV.tmp ⟨rfl, .inr ⟨hbad hm, _, rfl⟩⟩))
          · cases hc
        | some L4 =>
          have hL4 := mkR_len hm
          refine AOps.want rfl rfl (by decide) rfl ?_
          refine AOps.step rfl rfl ?_
          refine AOp.of_run (ARun.not rfl rfl) ?_
          refine AOps.want rfl rfl (by decide) rfl ?_
          refine AOps.step rfl rfl (AOp.of_run (ARun.pickT rfl rfl) ?_)
          refine AOps.step rfl rfl (AOp.of_run (ARun.pickF rfl rfl) ?_)
          refine AOps.nil ?_
          (repeat (first | refine AC.seq ?_ | refine AC.block ?_ | refine AC.skip ?_)); refine AC.cond rfl (fun hc => ?_) (fun hc => ?_)
          · cases hc
          (repeat (first | refine AC.seq ?_ | refine AC.block ?_ | refine AC.skip ?_ | refine AC.exit ?_))
          (repeat (first | refine AC.seq ?_ | refine AC.block ?_ | refine AC.skip ?_))
          refine AC.region ?_
          refine AOps.step rfl rfl ?_
          refine AOp.of_run (ARun.mvV (.inl rfl) rfl) ?_
          refine AOps.step rfl rfl ?_
          refine AOp.of_run (ARun.add rfl rfl rfl) ?_
          refine AOps.step rfl rfl ?_
          refine AOp.of_run (ARun.mvV (.inr rfl) rfl) ?_
          refine AOps.nil ?_
          exact ⟨_, by omega, k + 1, L4, hlt3, rfl, ⟨rfl, rfl, rfl, rfl, eI_wrap (by omega) (by omega) (by omega), trivial⟩, by omega, hcont _ hm, rfl⟩
      · have hop' : x.op = 6 := by simpa using hop
        rw [if_pos hop'] at hcont
        refine AOps.want rfl rfl (by decide) rfl ?_
        refine AOps.step rfl rfl ?_
        refine AOp.of_run (ARun.mvV (.inl rfl) rfl) ?_
        refine AOps.passU rfl rfl (by decide) rfl rfl rfl ?_
        refine AOps.passU rfl rfl (by decide) rfl rfl rfl ?_
        refine AOps.passU rfl rfl (by decide) rfl rfl rfl ?_
        refine AOps.passU rfl rfl (by decide) rfl rfl rfl ?_
        refine AOps.passU rfl rfl (by decide) rfl rfl rfl ?_
        refine AOps.passU rfl rfl (by decide) rfl rfl rfl ?_
        refine AOps.passU rfl rfl (by decide) rfl rfl rfl ?_
        refine AOps.passU rfl rfl (by decide) rfl rfl rfl ?_
        refine AOps.passU rfl rfl (by decide) rfl rfl rfl ?_
        refine AOps.passU rfl rfl (by decide) rfl rfl rfl ?_
        refine AOps.passU rfl rfl (by decide) rfl rfl rfl ?_
        refine AOps.passU rfl rfl (by decide) rfl rfl rfl ?_
        refine AOps.want rfl rfl (by decide) rfl ?_
        refine AOps.step rfl rfl (AOp.of_run (ARun.pickF rfl rfl) ?_)
        refine AOps.step rfl rfl (AOp.of_run (ARun.pickF rfl rfl) ?_)
        refine AOps.nil ?_
        (repeat (first | refine AC.seq ?_ | refine AC.block ?_ | refine AC.skip ?_)); refine AC.cond rfl (fun hc => ?_) (fun hc => ?_)
        · cases hc
        (repeat (first | refine AC.seq ?_ | refine AC.block ?_ | refine AC.skip ?_ | refine AC.exit ?_))
        (repeat (first | refine AC.seq ?_ | refine AC.block ?_ | refine AC.skip ?_))
        refine AC.region ?_
        refine AOps.step rfl rfl ?_
        refine AOp.of_run (ARun.mvV (.inl rfl) rfl) ?_
        refine AOps.step rfl rfl ?_
        refine AOp.of_run (ARun.add rfl rfl rfl) ?_
        refine AOps.step rfl rfl ?_
        refine AOp.of_run (ARun.mvV (.inr rfl) rfl) ?_
        refine AOps.nil ?_
        exact ⟨_, by omega, k + 1, L3, hlt3, rfl, ⟨rfl, rfl, rfl, rfl, eI_wrap (by omega) (by omega) (by omega), trivial⟩, hL3, hcont _ rfl, rfl⟩
    have hge : k = p.nodes.length := by simp at hc; omega
    subst hge
    rw [foldlM_all (by simp)] at hf3
    (repeat (first | refine AC.seq ?_ | refine AC.block ?_ | refine AC.skip ?_ | refine AC.exit ?_))
    (repeat (first | refine AC.seq ?_ | refine AC.block ?_ | refine AC.skip ?_))
    refine AC.region ?_
    refine AOps.step rfl rfl ?_
    refine AOp.of_run (ARun.mvV (.inl rfl) rfl) ?_
    refine AOps.step rfl rfl ?_
    refine AOp.of_run (ARun.add rfl rfl rfl) ?_
    refine AOps.step rfl rfl ?_
    refine AOp.of_run (ARun.mvV (.inr rfl) rfl) ?_
    refine AOps.nil ?_
    exact ⟨_, by omega, i + 1, L3, hlt, rfl, ⟨rfl, rfl, eI_wrap (by omega) (by omega) (by omega), trivial⟩, hL3, hyes _ hf3, rfl⟩
  · have hge : i = f.parts.length := by simp at hc; omega
    subst hge
    rw [foldlM_all (by simp)] at hfold
    (repeat (first | refine AC.seq ?_ | refine AC.block ?_ | refine AC.skip ?_ | refine AC.exit ?_))
    (repeat (first | refine AC.seq ?_ | refine AC.block ?_ | refine AC.skip ?_))
    refine AC.region ?_
    refine AOps.step rfl rfl ?_
    refine AOp.of_run (ARun.mvV (.inl rfl) rfl) ?_
    refine AOps.step rfl rfl ?_
    refine AOp.of_run (ARun.mvV (.inr rfl) rfl) ?_
    refine AOps.step rfl rfl ?_
    refine AOp.of_run (ARun.mvV (.inr rfl) rfl) ?_
    refine AOps.nil ?_
    refine AC.ret (ARes.le (Le.freezeMade (d := 2) rfl (Nat.le_refl _) (hset_same _ _ _)) (ARes.two rfl (RV.L rfl) RV.tmp ⟨?_, .inl ⟨L, hfold, rfl⟩⟩))
    rw [hset_hset, hset_id hb]
end Go.Proofs.Ytilanageangegaa

/- What the document's check asks is what the program's asks. No walk here. -/
set_option linter.unusedVariables false
set_option linter.unusedSimpArgs false
namespace Go.Proofs.Ytilanageangegaa
open Go.Ab

theorem foldlM_sim {α β γ : Type} {g : β → α → Option β} {g' : γ → α → Option γ} {φ : β → γ} {I : β → Prop} : ∀ {l : List α} {s : β}, (∀ s x, x ∈ l → I s → g' (φ s) x = (g s x).map φ ∧ ∀ t, g s x = some t → I t) → I s → l.foldlM g' (φ s) = (l.foldlM g s).map φ ∧ ∀ t, l.foldlM g s = some t → I t
  | [], s, _, hs => ⟨rfl, fun t e => by
    have : s = t := Option.some.inj e
    exact this ▸ hs⟩
  | x :: l, s, h, hs => by
    obtain ⟨h1, h2⟩ := h s x (by simp) hs
    rw [List.foldlM_cons, List.foldlM_cons, h1]
    cases hx : g s x with
    | none => exact ⟨rfl, fun t e => by cases e⟩
    | some u => exact foldlM_sim (fun s y hy => h s y (by simp [hy])) (h2 u hx)
def toPk (p : DPl) : DPk := if p.made then ⟨p.part, p.at_⟩ else zPk
def RI (n : Nat) (L : List DPl) : Prop := ∀ x ∈ L, x.made = true → 0 ≤ x.part ∧ x.part < n
theorem mk_sim {n : Nat} {L : List DPl} (hL : RI n L) {id part at_ : Int} (hp : 0 ≤ part ∧ part < n) : mkP (L.map toPk) id part at_ = (mkR L id part at_).map (fun L => L.map toPk) ∧ ∀ t, mkR L id part at_ = some t → RI n t := by
  have hcond : (id < 0 ∨ ((L.map toPk).length : Int) ≤ id ∨ (∃ q, (L.map toPk)[id.toNat]? = some q ∧ 0 ≤ q.part)) ↔ (id < 0 ∨ (L.length : Int) ≤ id ∨ (L[id.toNat]?.map (·.made)) = some true) := by
    rw [List.length_map]
    refine or_congr_right (or_congr_right ?_)
    rw [List.getElem?_map]
    cases hx : L[id.toNat]? with
    | none => simp
    | some x =>
      have hxm := List.mem_of_getElem? hx
      cases hm : x.made
      · simp [toPk, hm, zPk]
      · simp [toPk, hm, (hL x hxm hm).1]
  unfold mkP makeL mkR make1L
  by_cases c : (id < 0 ∨ (L.length : Int) ≤ id ∨ (L[id.toNat]?.map (·.made)) = some true)
  · rw [if_pos (hcond.2 c), if_pos c]
    exact ⟨rfl, fun t e => by cases e⟩
  · rw [if_neg (fun q => c (hcond.1 q)), if_neg c]
    refine ⟨?_, fun t e => ?_⟩
    · simp only [Option.map_some, List.map_set]; rfl
    · injection e with e
      subst e
      intro x hx hm
      rcases List.mem_or_eq_of_mem_set hx with q | q
      · exact hL x q hm
      · rw [q]; exact hp
theorem all_sim {f : DIr} {L : List DPl} (hL : RI f.parts.length L) : allMk mkP (L.map toPk) f = (allMk mkR L f).map (fun L => L.map toPk) ∧ ∀ t, allMk mkR L f = some t → RI f.parts.length t := by
  refine foldlM_sim (φ := fun L : List DPl => L.map toPk) (I := RI f.parts.length) (fun s x hx hs => ?_) hL
  have hx2 : x.2 < f.parts.length := by
    have h1 := List.mem_zipIdx (x := x.1) (i := x.2) (k := 0) hx
    omega
  have hp : 0 ≤ (x.2 : Int) ∧ (x.2 : Int) < f.parts.length := ⟨by omega, by omega⟩
  obtain ⟨h1, h2⟩ := foldlM_sim (φ := fun L : List DPl => L.map toPk) (I := RI f.parts.length) (g := phiMk mkR x.2) (g' := phiMk mkP x.2) (l := x.1.phis) (fun s y _ hs => mk_sim hs hp) hs
  unfold partMk
  rw [h1]
  cases hu : x.1.phis.foldlM (phiMk mkR x.2) s with
  | none => exact ⟨rfl, fun t e => by cases e⟩
  | some u =>
    refine foldlM_sim (φ := fun L : List DPl => L.map toPk) (I := RI f.parts.length) (g := nodeMk mkR x.2) (g' := nodeMk mkP x.2) (fun s y _ hs => ?_) (h2 u hu)
    unfold nodeMk
    split
    · split
      · exact ⟨rfl, fun t e => by injection e with e; exact e ▸ hs⟩
      · exact mk_sim hs hp
    · exact ⟨rfl, fun t e => by cases e⟩
theorem usesR_D {f : DIr} (hw : waysP f) {L : List DPl} (hL : RI f.parts.length L) {D : List (List Bool)} (hDl : D.length = (succL f).length) (hD : ∀ a (ha : a < D.length), RowOK (succL f) a (succL f).length D[a]) : usesP (okR L D) f ↔ usesP (okD (L.map toPk) (succL f)) f := by
  have hsl := succL_len f
  refine usesP_congr hw fun part h0 h1 at_ id => ?_
  have hDm : ∀ a : Int, 0 ≤ a → a < f.parts.length → ((D.getD a.toNat []).getD part.toNat false = true ↔ Dm (succL f) a.toNat part.toNat) := fun a ha0 ha1 => by
    have hal : a.toNat < D.length := by omega
    have hr := hD a.toNat hal
    have hrl := hr.1
    have e1 : D.getD a.toNat [] = D[a.toNat] := by rw [List.getD_eq_getElem?_getD, List.getElem?_eq_getElem hal]; rfl
    rw [e1, ← hr.2 part.toNat (by omega), List.getD_eq_getElem?_getD, List.getElem?_eq_getElem (by omega)]
    simp
  unfold okR okD
  refine and_congr_right fun _ => ?_
  rw [List.getElem?_map]
  cases hx : L[id.toNat]? with
  | none => simp
  | some x =>
    have hxm := List.mem_of_getElem? hx
    simp only [Option.map_some, Option.some.injEq, exists_eq_left']
    cases hm : x.made
    · simp [toPk, hm, zPk]
    · have hr := hL x hxm hm
      simp only [toPk, hm, if_true, true_and, hr.1]
      by_cases e : x.part = part
      · rw [if_pos e, if_pos e]
      · rw [if_neg e, if_neg e]; exact hDm _ hr.1 hr.2
end Go.Proofs.Ytilanageangegaa
