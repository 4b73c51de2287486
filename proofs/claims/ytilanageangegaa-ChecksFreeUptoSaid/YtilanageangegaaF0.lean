/- Walks and laws for LawFree (0): Ab1, Ab2, Ab3, Ab4, Ab5, Dat, Ab6, Ab7, Ab8, Ab9, Ab10, Ab15, Ty, T2. No statement of the seat is proved here. -/
import Derived.Below
import Derived.Tactics
import Derived.Orders
import Derived.Laws.Sem
import Derived.Laws.Entries
import Derived.Laws.Rows
import Derived.Laws.Cells
import Derived.Laws.CopyRow
import Derived.Laws.Tables
import Derived.Laws.MakeOwn
import Derived.Laws.OwnMore
import Derived.Maps.AppendAt
import Derived.OrdersHeld
import Derived.Test.YtilanageangegaaProg
import Derived.KernelRfl

/- A layer over the walk: values that read as pure data, blocks that are one's own, and what a call does to them. No statement is proved here. -/
set_option linter.unusedVariables false
set_option linter.unusedSimpArgs false
namespace Go.Ab

/-- A value as it is reckoned with: a plain value; an immutable slice of n elements by its cells; a place in such cells; several cells; several results; whatever. -/
inductive AVal where
  | v (x : Value)
  | ls (n : Nat) (cs : List AVal)
  | lp (cs : List AVal) (off : Nat)
  | agg (cs : List AVal)
  | tup (vs : List AVal)
  | any

instance : Inhabited AVal := ⟨.any⟩

/-- A block of one's own: cells (and how many there are in all), or a map's entries. -/
inductive ABlk where
  | cells (cs : List AVal) (t : TypeId) (size : Nat)
  | map (kk : IntKind) (es : List (Int × AVal))

abbrev AHeap := Nat → Option ABlk

/-- In world w, the blocks of h being one's own, a value is what the abstract one says. What an immutable slice shows lies in no own block. -/
inductive VR (w : World) (h : AHeap) : AVal → Value → Prop
  | v (x : Value) : VR w h (.v x) x
  | any (x : Value) : VR w h .any x
  | agg (cs : List AVal) (vs : Array Value) (hl : vs.size = cs.length) (hc : ∀ i (h1 : i < cs.length) (h2 : i < vs.size), VR w h cs[i] vs[i]) : VR w h (.agg cs) (.agg vs)
  | tup (cs : List AVal) (vs : Array Value) (hl : vs.size = cs.length) (hc : ∀ i (h1 : i < cs.length) (h2 : i < vs.size), VR w h cs[i] vs[i]) : VR w h (.tup cs) (.tuple vs)
  | ls0 (a : Option Addr) (c : Nat) : VR w h (.ls 0 []) (.slice a 0 c)
  | ls (b o n c : Nat) (cs : List AVal) (C : Array Value) (t : TypeId) (fr : Nat × Nat) (hb : h b = none) (hw : w.heap[b]? = some (.cells C t fr)) (hn : n ≤ c) (hl : o + cs.length ≤ C.size)
      (hc : ∀ i (h1 : i < cs.length) (h2 : o + i < C.size), VR w h cs[i] C[o + i]) : VR w h (.ls n cs) (.slice (some ⟨b, o, none⟩) n c)
  | lp (b o off : Nat) (cs : List AVal) (C : Array Value) (t : TypeId) (fr : Nat × Nat) (hb : h b = none) (hw : w.heap[b]? = some (.cells C t fr)) (hl : o + cs.length ≤ C.size)
      (hc : ∀ i (h1 : i < cs.length) (h2 : o + i < C.size), VR w h cs[i] C[o + i]) : VR w h (.lp cs off) (.pointer (some ⟨b, o + off, none⟩))

/-- What is one's own lies there as it is told. -/
def BlkOK (w : World) (h : AHeap) (b : Nat) : ABlk → Prop
  | .cells cs t size => ∃ C : Array Value, w.heap[b]? = some (.cells C t (0, 0)) ∧ C.size = size ∧ cs.length ≤ size ∧ ∀ i (h1 : i < cs.length) (h2 : i < C.size), VR w h cs[i] C[i]
  | .map kk es => ∃ (E : Array MapEntry) (clock : Nat), w.heap[b]? = some (.map E clock) ∧ E.size = es.length ∧ ∀ i (h1 : i < es.length) (h2 : i < E.size), E[i].key = .int kk es[i].1 ∧ VR w h es[i].2 E[i].val

def HeapOK (h : AHeap) (w : World) : Prop := ∀ b k, h b = some k → BlkOK w h b k

/-- From (h, w) to (h', w'): what was nobody's own is nobody's own, and as it was. -/
structure Ev (h : AHeap) (w : World) (h' : AHeap) (w' : World) : Prop where
  size : w.heap.size ≤ w'.heap.size
  old : ∀ b, b < w.heap.size → h b = none → h' b = none ∧ w'.heap[b]? = w.heap[b]?
  os : w'.os = w.os
  tape : w'.tape = w.tape
  output : w'.output = w.output

theorem Ev.refl (h : AHeap) (w : World) : Ev h w h w := ⟨Nat.le_refl _, fun _ _ hb => ⟨hb, rfl⟩, rfl, rfl, rfl⟩
theorem Ev.trans {h w h1 w1 h2 w2} (e : Ev h w h1 w1) (f : Ev h1 w1 h2 w2) : Ev h w h2 w2 :=
  ⟨Nat.le_trans e.size f.size, fun b hb hn => by
    obtain ⟨h1n, h1w⟩ := e.old b hb hn
    obtain ⟨h2n, h2w⟩ := f.old b (Nat.lt_of_lt_of_le hb e.size) h1n
    exact ⟨h2n, h2w.trans h1w⟩, f.os.trans e.os, f.tape.trans e.tape, f.output.trans e.output⟩

theorem lt_of_get {w : World} {b : Nat} {o : Obj} (h : w.heap[b]? = some o) : b < w.heap.size := (Array.getElem?_eq_some_iff.1 h).1

theorem VR.mono {h w h' w'} (e : Ev h w h' w') {x : AVal} {y : Value} (r : VR w h x y) : VR w' h' x y := by
  induction r with
  | v x => exact .v x
  | any x => exact .any x
  | agg cs vs hl hc ih => exact .agg cs vs hl ih
  | tup cs vs hl hc ih => exact .tup cs vs hl ih
  | ls0 a c => exact .ls0 a c
  | ls b o n c cs C t fr hb hw hn hl hc ih =>
    obtain ⟨h1, h2⟩ := e.old b (lt_of_get hw) hb
    exact .ls b o n c cs C t fr h1 (h2.trans hw) hn hl ih
  | lp b o off cs C t fr hb hw hl hc ih =>
    obtain ⟨h1, h2⟩ := e.old b (lt_of_get hw) hb
    exact .lp b o off cs C t fr h1 (h2.trans hw) hl ih

/-- A heap with a block put in, or taken out. -/
def hset (h : AHeap) (b : Nat) (k : Option ABlk) : AHeap := fun i => if i = b then k else h i
theorem hset_same (h : AHeap) (b : Nat) (k : Option ABlk) : hset h b k b = k := by simp [hset]
theorem hset_ne (h : AHeap) {b i : Nat} (k : Option ABlk) (hne : i ≠ b) : hset h b k i = h i := by simp [hset, hne]
theorem hset_hset (h : AHeap) (b : Nat) (k l : Option ABlk) : hset (hset h b k) b l = hset h b l := by
  funext i; by_cases e : i = b <;> simp [hset, e]
theorem hset_id {h : AHeap} {b : Nat} {k : Option ABlk} (e : h b = k) : hset h b k = h := by
  funext i; by_cases e' : i = b <;> simp [hset, e', e]
theorem hset_comm (h : AHeap) {b c : Nat} (k l : Option ABlk) (hne : b ≠ c) : hset (hset h b k) c l = hset (hset h c l) b k := by
  funext i
  unfold hset
  by_cases e : i = b
  · by_cases e' : i = c
    · exact absurd (e.symm.trans e') hne
    · rw [if_neg e', if_pos e, if_pos e]
  · by_cases e' : i = c
    · rw [if_pos e', if_neg e, if_pos e']
    · rw [if_neg e', if_neg e, if_neg e, if_neg e']

/-- Fewer own blocks. -/
def HSub (h' h : AHeap) : Prop := ∀ b k, h' b = some k → h b = some k
theorem HSub.refl (h : AHeap) : HSub h h := fun _ _ e => e
theorem HSub.trans {a b c : AHeap} (x : HSub a b) (y : HSub b c) : HSub a c := fun i k e => y i k (x i k e)
theorem HSub.ev {h' h : AHeap} (s : HSub h' h) (w : World) : Ev h w h' w :=
  ⟨Nat.le_refl _, fun b _ hn => ⟨by
    cases e : h' b with
    | none => rfl
    | some k => exact absurd ((s b k e).symm.trans hn) (by simp), rfl⟩, rfl, rfl, rfl⟩
theorem BlkOK.mono {h w h' w'} (e : Ev h w h' w') {b : Nat} {k : ABlk} (hs : w'.heap[b]? = w.heap[b]?) (r : BlkOK w h b k) : BlkOK w' h' b k := by
  cases k with
  | cells cs t size =>
    obtain ⟨C, h1, h2, h3, h4⟩ := r
    exact ⟨C, hs.trans h1, h2, h3, fun i a b => (h4 i a b).mono e⟩
  | map kk es =>
    obtain ⟨E, cl, h1, h2, h3⟩ := r
    exact ⟨E, cl, hs.trans h1, h2, fun i a b => ⟨(h3 i a b).1, (h3 i a b).2.mono e⟩⟩
theorem HeapOK.sub {h h' : AHeap} {w : World} (o : HeapOK h w) (s : HSub h' h) : HeapOK h' w := fun b k e => (o b k (s b k e)).mono (s.ev w) rfl
theorem HSub.drop {h : AHeap} (b : Nat) : HSub (hset h b none) h := fun i k e => by
  by_cases e' : i = b
  · simp [hset, e'] at e
  · simpa [hset, e'] using e

theorem BlkOK.lt {w h b k} (r : BlkOK w h b k) : b < w.heap.size := by
  cases k with
  | cells cs t size => obtain ⟨C, h1, _⟩ := r; exact lt_of_get h1
  | map es => obtain ⟨E, cl, h1, _⟩ := r; exact lt_of_get h1
theorem HeapOK.lt {h w} (o : HeapOK h w) {b k} (e : h b = some k) : b < w.heap.size := (o b k e).lt
/-- What is not there yet is nobody's own. -/
theorem HeapOK.fresh {h w} (o : HeapOK h w) : h w.heap.size = none := by
  cases e : h w.heap.size with
  | none => rfl
  | some k => exact absurd (o.lt e) (Nat.lt_irrefl _)

/-! ### What one does to the world -/

theorem heap_alloc (w : World) (o : Obj) (b : Nat) (hb : b < w.heap.size) : (w.heap.push o)[b]? = w.heap[b]? := by
  rw [Array.getElem?_push]; simp [Nat.ne_of_lt hb]

/-- A draw. -/
theorem Ev.drawn {h w h' w'} (e : Ev h w h' w') (n : Nat) : Ev h w h' { w' with drawn := n } := ⟨e.size, e.old, e.os, e.tape, e.output⟩
theorem VR.drawn {h : AHeap} {w : World} {x : AVal} {y : Value} (r : VR w h x y) (n : Nat) : VR { w with drawn := n } h x y := r.mono ((Ev.refl h w).drawn n)
theorem HeapOK.drawn {h : AHeap} {w : World} (o : HeapOK h w) (n : Nat) : HeapOK h { w with drawn := n } := fun b k e => (o b k e).mono ((Ev.refl h w).drawn n) rfl

/-- A new block, one's own. -/
theorem Ev.push (h : AHeap) (w : World) (k : Option ABlk) (ob : Obj) : Ev h w (hset h w.heap.size k) { w with heap := w.heap.push ob } :=
  ⟨by simp, fun b hb hn => ⟨by rw [hset_ne _ _ (Nat.ne_of_lt hb)]; exact hn, heap_alloc w ob b hb⟩, rfl, rfl, rfl⟩
theorem HeapOK.push {h : AHeap} {w : World} (o : HeapOK h w) (k : Option ABlk) (ob : Obj)
    (hk : ∀ k', k = some k' → BlkOK { w with heap := w.heap.push ob } (hset h w.heap.size k) w.heap.size k') : HeapOK (hset h w.heap.size k) { w with heap := w.heap.push ob } := by
  intro b k' e
  by_cases hb : b = w.heap.size
  · subst hb
    rw [hset_same] at e
    exact hk k' e
  · rw [hset_ne _ _ hb] at e
    exact (o b k' e).mono (Ev.push h w k ob) (heap_alloc w ob b (o.lt e))

/-- A block of one's own is written: what stands there now is what the new abstract block says. -/
theorem Ev.write {h : AHeap} {w : World} {b : Nat} {k : ABlk} (hb : h b = some k) (k' : Option ABlk) (ob : Obj) : Ev h w (hset h b k') { w with heap := w.heap.setIfInBounds b ob } :=
  ⟨by simp, fun i hi hn => by
    have hne : i ≠ b := by rintro rfl; rw [hb] at hn; cases hn
    exact ⟨by rw [hset_ne _ _ hne]; exact hn, by simp [Array.getElem?_setIfInBounds, Ne.symm hne]⟩, rfl, rfl, rfl⟩
theorem HeapOK.write {h : AHeap} {w : World} (o : HeapOK h w) {b : Nat} {k : ABlk} (hb : h b = some k) (k' : Option ABlk) (ob : Obj)
    (hk : ∀ l, k' = some l → BlkOK { w with heap := w.heap.setIfInBounds b ob } (hset h b k') b l) : HeapOK (hset h b k') { w with heap := w.heap.setIfInBounds b ob } := by
  intro i l e
  by_cases hi : i = b
  · subst hi
    rw [hset_same] at e
    exact hk l e
  · rw [hset_ne _ _ hi] at e
    exact (o i l e).mono (Ev.write hb k' ob) (by simp [Array.getElem?_setIfInBounds, Ne.symm hi])

end Go.Ab

/- The layer's code rules: what a piece of code, a list of operations, a function does to abstract values and to one's own blocks. No statement is proved here. -/
set_option linter.unusedVariables false
set_option linter.unusedSimpArgs false
namespace Go.Ab

abbrev Env := Nat → AVal

def upd (τ : Env) (d : Nat) (x : AVal) : Env := fun i => if i = d then x else τ i
def updO (τ : Env) : Option Nat → AVal → Env
  | none, _ => τ
  | some d, x => upd τ d x
theorem upd_id {τ : Env} {d : Nat} {x : AVal} (h : τ d = x) : upd τ d x = τ := by
  funext i; unfold upd; split
  · rename_i e; rw [e, h]
  · rfl

def aev (τ : Env) : Operand → AVal
  | .tmp t => τ t
  | .const v => .v v
  | .global g => .v (.pointer (some ⟨g, 0, none⟩))
  | .func f => .v (.func (.func f) #[] #[])

structure Rel (n : Nat) (τ : Env) (h : AHeap) (a : Act) (w : World) : Prop where
  defers : a.defers = []
  size : a.tmps.size = n
  heap : HeapOK h w
  tmps : ∀ i, VR w h (τ i) (a.tmps.getD i undef)

theorem Rel.eval {n τ h a w} (r : Rel n τ h a w) (x : Operand) : VR w h (aev τ x) (a.eval x) := by
  cases x with
  | tmp t => exact r.tmps t
  | const v => exact .v v
  | global g => exact .v _
  | func f => exact .v _

theorem VR.inv_v {w h x y} (r : VR w h (.v x) y) : y = x := by cases r; rfl
theorem Rel.eval_v {n τ h a w x v} (r : Rel n τ h a w) (e : aev τ x = .v v) : a.eval x = v := by
  have := r.eval x; rw [e] at this; exact this.inv_v

theorem Rel.put {n τ h a w} (r : Rel n τ h a w) {d : Nat} (hd : d < n) {x : AVal} {v : Value} (hx : VR w h x v) : Rel n (upd τ d x) h (a.put (some d) v) w := by
  refine ⟨r.defers, ?_, r.heap, fun i => ?_⟩
  · simp only [Act.put, Array.size_setIfInBounds]; exact r.size
  · unfold upd
    by_cases e : i = d
    · subst e
      rw [if_pos rfl]
      have : (a.put (some i) v).tmps.getD i undef = v := by
        simp [Act.put, Array.getD_eq_getD_getElem?, Array.getElem?_setIfInBounds, r.size, hd]
      rw [this]; exact hx
    · rw [if_neg e]
      have : (a.put (some d) v).tmps.getD i undef = a.tmps.getD i undef := by
        simp [Act.put, Array.getD_eq_getD_getElem?, Array.getElem?_setIfInBounds, Ne.symm e]
      rw [this]; exact r.tmps i
/-- A destination within the frame. -/
def dstOK (n : Nat) : Option Nat → Bool
  | none => true
  | some d => decide (d < n)
theorem Rel.putO {n τ h a w} (r : Rel n τ h a w) {d : Option Nat} (hd : dstOK n d = true) {x : AVal} {v : Value} (hx : VR w h x v) : Rel n (updO τ d x) h (a.put d v) w := by
  cases d with
  | none => exact ⟨r.defers, r.size, r.heap, r.tmps⟩
  | some d => exact r.put (of_decide_eq_true hd) hx
theorem Rel.ev {n τ h a w h' w'} (r : Rel n τ h a w) (e : Ev h w h' w') (o : HeapOK h' w') : Rel n τ h' a w' := ⟨r.defers, r.size, o, fun i => (r.tmps i).mono e⟩

/-- Behind the way from (h, w) the abstract state is one that Q takes. -/
def Lift (n : Nat) (h : AHeap) (w : World) (Q : Exit → Env → AHeap → Prop) : Exit → Act → World → Prop := fun e a' w' => ∃ τ' h', Rel n τ' h' a' w' ∧ Ev h w h' w' ∧ Q e τ' h'
theorem Lift.trans {n h w h1 w1 Q e a w2} (f : Ev h w h1 w1) (l : Lift n h1 w1 Q e a w2) : Lift n h w Q e a w2 := by
  obtain ⟨τ', h', r, g, q⟩ := l
  exact ⟨τ', h', r, f.trans g, q⟩
theorem Lift.mono {n h w} {Q Q' : Exit → Env → AHeap → Prop} (hq : ∀ e τ h, Q e τ h → Q' e τ h) {e a w2} (l : Lift n h w Q e a w2) : Lift n h w Q' e a w2 := by
  obtain ⟨τ', h', r, g, q⟩ := l
  exact ⟨τ', h', r, g, hq _ _ _ q⟩

/-- Code c, begun in the abstract state (τ, h), ends as Q says. -/
def AC (P : Program) (n : Nat) (c : Code) (Q : Exit → Env → AHeap → Prop) (τ : Env) (h : AHeap) : Prop := ∀ a w, Rel n τ h a w → c.wp P (Lift n h w Q) a w

section code
variable {P : Program} {n : Nat} {Q : Exit → Env → AHeap → Prop} {τ : Env} {h : AHeap}

theorem AC.mono {c : Code} {Q' : Exit → Env → AHeap → Prop} (x : AC P n c Q τ h) (hq : ∀ e τ h, Q e τ h → Q' e τ h) : AC P n c Q' τ h :=
  fun a w r => wp_mono (x a w r) fun _ _ _ l => l.mono hq

/-- The state is another's that knows less. -/
def Le (n : Nat) (τ : Env) (h : AHeap) (τ' : Env) (h' : AHeap) : Prop := ∀ a w, Rel n τ h a w → Rel n τ' h' a w ∧ Ev h w h' w
theorem AC.le {c : Code} {τ' : Env} {h' : AHeap} (l : Le n τ h τ' h') (x : AC P n c Q τ' h') : AC P n c Q τ h := fun a w r => by
  obtain ⟨r', e⟩ := l a w r
  exact wp_mono (x a w r') fun _ _ _ l => Lift.trans e l
theorem Le.refl : Le n τ h τ h := fun _ w r => ⟨r, Ev.refl h w⟩
theorem Le.trans {τ1 h1 τ2 h2} (x : Le n τ h τ1 h1) (y : Le n τ1 h1 τ2 h2) : Le n τ h τ2 h2 := fun a w r => by
  obtain ⟨r1, e1⟩ := x a w r
  obtain ⟨r2, e2⟩ := y a w r1
  exact ⟨r2, e1.trans e2⟩
/-- Blocks are forgotten. -/
theorem Le.sub {h' : AHeap} (s : HSub h' h) : Le n τ h τ h' := fun a w r => ⟨r.ev (s.ev w) (r.heap.sub s), s.ev w⟩
/-- A slot's value is forgotten, or told otherwise. -/
theorem Le.slot {d : Nat} {x : AVal} (hx : ∀ w v, VR w h (τ d) v → VR w h x v) : Le n τ h (upd τ d x) h := fun a w r =>
  ⟨⟨r.defers, r.size, r.heap, fun i => by
    unfold upd; split
    · rename_i e; subst e; exact hx _ _ (r.tmps i)
    · exact r.tmps i⟩, Ev.refl h w⟩
/-- Slots of which nothing is known any more. -/
def Weak (τ τ' : Env) : Prop := ∀ i, τ' i = .any ∨ τ' i = τ i
theorem Weak.refl (τ : Env) : Weak τ τ := fun _ => .inr rfl
theorem Weak.same {τ τ' : Env} (x : Weak τ τ') (d : Nat) (v : AVal) : Weak (upd τ d v) (upd τ' d v) := fun i => by
  unfold upd; split
  · exact .inr rfl
  · exact x i
theorem Weak.lose {τ τ' : Env} (x : Weak τ τ') (d : Nat) (v : AVal) : Weak (upd τ d v) (upd τ' d .any) := fun i => by
  unfold upd; split
  · exact .inl rfl
  · exact x i
theorem Le.weak {τ' : Env} (x : Weak τ τ') : Le n τ h τ' h := fun a w r =>
  ⟨⟨r.defers, r.size, r.heap, fun i => by
    rcases x i with e | e
    · rw [e]; exact .any _
    · rw [e]; exact r.tmps i⟩, Ev.refl h w⟩
/-- Slots lo .. hi-1 are forgotten. -/
def anyR (τ : Env) (lo hi : Nat) : Env := fun i => if lo ≤ i ∧ i < hi then .any else τ i
theorem Weak.range (τ : Env) (lo hi : Nat) : Weak τ (anyR τ lo hi) := fun i => by unfold anyR; split <;> simp

/-- At an exit that is no normal end, Q; at a normal one, K. -/
def thenA (K : Env → AHeap → Prop) (Q : Exit → Env → AHeap → Prop) : Exit → Env → AHeap → Prop
  | .normal, τ, h => K τ h
  | e, τ, h => Q e τ h

theorem AC.seq {x y : Code} (hx : AC P n x (thenA (AC P n y Q) Q) τ h) : AC P n (.seq x y) Q τ h := fun a w r => by
  refine wp_seq (wp_mono (hx a w r) fun e a' w' l => ?_)
  obtain ⟨τ', h', r', f, q⟩ := l
  cases e with
  | normal => exact wp_mono (q a' w' r') fun _ _ _ l => Lift.trans f l
  | _ => exact ⟨τ', h', r', f, q⟩

theorem AC.skip (q : Q .normal τ h) : AC P n .skip Q τ h := fun a w r => wp_skip ⟨τ, h, r, Ev.refl h w, q⟩
theorem AC.exit {id : Nat} (q : Q (.exit id) τ h) : AC P n (.exit id) Q τ h := fun a w r => wp_exit ⟨τ, h, r, Ev.refl h w, q⟩
theorem AC.ret (q : Q .ret τ h) : AC P n .ret Q τ h := fun a w r => wp_ret ⟨τ, h, r, Ev.refl h w, q⟩
theorem AC.label {l : Nat} (q : Q .normal τ h) : AC P n (.label l) Q τ h := fun a w r => wp_label ⟨τ, h, r, Ev.refl h w, q⟩
theorem AC.cond {c : Operand} {x y : Code} {b : Bool} (hc : aev τ c = .v (.bool b)) (ht : b = true → AC P n x Q τ h) (hf : b = false → AC P n y Q τ h) : AC P n (.cond c x y) Q τ h := fun a w r => by
  refine wp_cond_split (r.eval_v hc) (fun e => ht e a w r) (fun e => hf e a w r)
def inBlockA (id : Nat) (Q : Exit → Env → AHeap → Prop) : Exit → Env → AHeap → Prop
  | .exit id', τ, h => if id' = id then Q .normal τ h else Q (.exit id') τ h
  | e, τ, h => Q e τ h
theorem AC.block {id : Nat} {c : Code} (x : AC P n c (inBlockA id Q) τ h) : AC P n (.block id c) Q τ h := fun a w r => by
  refine wp_block (wp_mono (x a w r) fun e a' w' l => ?_)
  obtain ⟨τ', h', r', f, q⟩ := l
  cases e with
  | exit id' =>
    simp only [Exit.inBlock, inBlockA] at q ⊢
    split <;> rename_i hh
    · rw [if_pos hh] at q; exact ⟨τ', h', r', f, q⟩
    · rw [if_neg hh] at q; exact ⟨τ', h', r', f, q⟩
  | _ => exact ⟨τ', h', r', f, q⟩

/-- A loop: what holds at every round's head, with what is left. -/
theorem AC.loop {c : Code} (I : Nat → Env → AHeap → Prop) (m : Nat) (h0 : I m τ h) (round : ∀ m τ h, I m τ h → AC P n c (thenA (fun τ' h' => ∃ m', m' < m ∧ I m' τ' h') Q) τ h) : AC P n (.loop c) Q τ h := fun a w r => by
  let S : Act → World → Nat → Prop := fun a' w' m => ∃ τ' h', I m τ' h' ∧ Rel n τ' h' a' w' ∧ Ev h w h' w'
  have hdec : ∀ a' w', ∃ k, (∃ m, S a' w' m) → S a' w' k ∧ ∀ j, S a' w' j → k ≤ j := by
    intro a' w'
    by_cases hm : ∃ m, S a' w' m
    · obtain ⟨m, hm⟩ := hm
      induction m using Nat.strongRecOn with
      | _ m ih =>
        by_cases hs : ∃ j, j < m ∧ S a' w' j
        · obtain ⟨j, hj, hs⟩ := hs
          exact ih j hj hs
        · exact ⟨m, fun _ => ⟨hm, fun j hj => by
            rcases Nat.lt_or_ge j m with h' | h'
            · exact absurd ⟨j, h', hj⟩ hs
            · exact h'⟩⟩
    · exact ⟨0, fun h' => absurd h' hm⟩
  let μ : Act → World → Nat := fun a' w' => Classical.choose (hdec a' w')
  have hμ : ∀ a' w', (∃ m, S a' w' m) → S a' w' (μ a' w') ∧ ∀ j, S a' w' j → μ a' w' ≤ j := fun a' w' => Classical.choose_spec (hdec a' w')
  refine wp_loop (fun a' w' => ∃ m, S a' w' m) μ ⟨m, τ, h, h0, r, Ev.refl h w⟩ fun a' w' hs => ?_
  obtain ⟨⟨τ', h', hI, r', f⟩, hle⟩ := hμ a' w' hs
  refine wp_mono (round _ _ _ hI a' w' r') fun e a2 w2 l => ?_
  obtain ⟨τ2, h2, r2, g, q⟩ := l
  cases e with
  | normal =>
    obtain ⟨m', hm', hI'⟩ := q
    have hS : S a2 w2 m' := ⟨τ2, h2, hI', r2, f.trans g⟩
    exact ⟨⟨m', hS⟩, Nat.lt_of_le_of_lt ((hμ a2 w2 ⟨m', hS⟩).2 m' hS) hm'⟩
  | _ => exact ⟨τ2, h2, r2, f.trans g, q⟩
end code

/-! ### Operations -/

def AOp (P : Program) (n : Nat) (o : Oper) (τ : Env) (h : AHeap) (K : AVal → AHeap → Prop) : Prop :=
  ∀ a w, Rel n τ h a w → ∀ (NK : Act → World → Prop) (QQ : Exit → Act → World → Prop),
    (∀ v w' x h', VR w' h' x v → HeapOK h' w' → Ev h w h' w' → K x h' → NK (a.put o.dst v) w') → o.wp P a w NK QQ

def AOps (P : Program) (n : Nat) (ops : Array Oper) (l : List Oper) (Q : Env → AHeap → Prop) (τ : Env) (h : AHeap) : Prop :=
  ∀ a w, Rel n τ h a w → wpList P ops (Lift n h w fun e τ h => e = .normal ∧ Q τ h) l a w

section ops
variable {P : Program} {n : Nat} {ops : Array Oper} {Q : Env → AHeap → Prop} {τ : Env} {h : AHeap}

theorem wpList_mono {Q Q' : Exit → Act → World → Prop} (hq : ∀ e a w, Q e a w → Q' e a w) : ∀ (l : List Oper) (a : Act) (w : World), wpList P ops Q l a w → wpList P ops Q' l a w
  | [], a, w, x => hq _ _ _ x
  | o :: rest, a, w, x => by
    unfold wpList at x ⊢
    split
    · rename_i hw
      rw [if_pos hw] at x
      refine x.imp (fun y => ?_) fun ⟨y, z⟩ => ⟨y, ?_⟩
      · have y1 := Oper.wp_mono (fun a w => wpList_mono hq rest a w) y
        unfold Oper.wp at *
        generalize (execOp a.eval o).run P w = rr at *
        cases rr with
        | ok nx w' =>
          cases nx <;> simp only [Oper.upon] at y1 ⊢ <;> first
            | exact y1
            | exact Calls.mono y1 (fun e w'' he => by
                cases e with
                | returned v => exact he
                | panicked c => exact hq _ _ _ he
                | outgrown => obtain ⟨a, w, q⟩ := he; exact ⟨a, w, hq _ _ _ q⟩)
        | halt hh w' => cases hh <;> first | exact y1 | exact hq _ _ _ y1 | exact y1.elim
      · obtain ⟨a, w, q⟩ := z
        exact ⟨a, w, hq _ _ _ q⟩
    · rename_i hw
      rw [if_neg hw] at x
      exact wpList_mono hq rest _ _ x

theorem AOps.nil (q : Q τ h) : AOps P n ops [] Q τ h := fun a w r => wpList_nil ⟨τ, h, r, Ev.refl h w, rfl, q⟩
theorem AOps.le {l : List Oper} {τ' : Env} {h' : AHeap} (le : Le n τ h τ' h') (x : AOps P n ops l Q τ' h') : AOps P n ops l Q τ h := fun a w r => by
  obtain ⟨r', e⟩ := le a w r
  exact wpList_mono (fun _ _ _ l => Lift.trans e l) _ _ _ (x a w r')
theorem AOps.step {o : Oper} {rest : List Oper} (hg : o.guard = none) (hd : dstOK n o.dst = true) (x : AOp P n o τ h fun x h' => AOps P n ops rest Q (updO τ o.dst x) h') : AOps P n ops (o :: rest) Q τ h := fun a w r => by
  refine wpList_plain hg fun K hK => x a w r K _ fun v w' x h' hx ho hf k => hK _ _ ?_
  exact wpList_mono (fun _ _ _ l => Lift.trans hf l) _ _ _ (k _ _ ((r.ev hf ho).putO hd hx))
/-- A guarded operation that is carried out. -/
theorem AOps.want {o : Oper} {rest : List Oper} {j : Nat} {b : Bool} {t : Nat} (hg : o.guard = some (j, b)) (hj : (ops[j]?).bind (·.dst) = some t) (ht : t < n) (hv : τ t = .v (.bool b))
    (x : AOps P n ops ({ o with guard := none } :: rest) Q τ h) : AOps P n ops (o :: rest) Q τ h := fun a w r => by
  have y := x a w r
  unfold wpList at y ⊢
  have he : a.tmps.getD t undef = .bool b := by have := r.tmps t; rw [hv] at this; exact this.inv_v
  have hsz := r.size
  have hy : yielded ops a.tmps j = some b := by
    unfold yielded
    rw [hj]
    have : a.tmps[t]? = some (.bool b) := by
      rw [Array.getElem?_eq_getElem (by omega)]
      rw [Array.getD_eq_getD_getElem?, Array.getElem?_eq_getElem (by omega)] at he
      simpa using he
    simp [this]
  have hw : Region.wanted o (yielded ops a.tmps) = true := by simp [Region.wanted, hg, hy]
  rw [if_pos hw]
  rw [if_pos (by simp [Region.wanted])] at y
  exact y
/-- A guarded operation that is passed by. -/
theorem AOps.pass {o : Oper} {rest : List Oper} {j : Nat} {b : Bool} {t : Nat} (hg : o.guard = some (j, b)) (hj : (ops[j]?).bind (·.dst) = some t) (ht : t < n) {b' : Bool} (hv : τ t = .v (.bool b')) (hb : b' ≠ b) (hd : dstOK n o.dst = true)
    (x : AOps P n ops rest Q (updO τ o.dst .any) h) : AOps P n ops (o :: rest) Q τ h := fun a w r => by
  unfold wpList
  have he : a.tmps.getD t undef = .bool b' := by have := r.tmps t; rw [hv] at this; exact this.inv_v
  have hsz := r.size
  have hy : yielded ops a.tmps j = some b' := by
    unfold yielded
    rw [hj]
    have : a.tmps[t]? = some (.bool b') := by
      rw [Array.getElem?_eq_getElem (by omega)]
      rw [Array.getD_eq_getD_getElem?, Array.getElem?_eq_getElem (by omega)] at he
      simpa using he
    simp [this]
  have hw : Region.wanted o (yielded ops a.tmps) = false := by simp [Region.wanted, hg, hy, hb]
  rw [if_neg (by simp [hw])]
  exact x _ _ (r.putO hd (.any _))
/-- A region without a draw. -/
theorem AC.region {id : Nat} {Q : Exit → Env → AHeap → Prop} (x : AOps P n ops ops.toList (Q .normal) τ h) : AC P n (.region id ops false) Q τ h := fun a w r =>
  wp_region_list (wpList_mono (fun e a w l => by
    obtain ⟨τ', h', r', f, e', q⟩ := l
    subst e'
    exact ⟨τ', h', r', f, q⟩) _ _ _ (x a w r))
end ops

/-! ### Functions -/

/-- The contract of a function: called with these arguments, these blocks being the caller's own, it hands back what R says. -/
structure Sp (P : Program) (f : FuncId) (args : List AVal) (h : AHeap) (R : AVal → AHeap → Prop) : Prop where
  enter : ∀ (cargs : Array Value) (w : World), (callFunc f cargs).run P w = .ok (.enter f cargs) w
  calls : ∀ (w : World) (cargs : Array Value), HeapOK h w → cargs.size = args.length → (∀ i (h1 : i < args.length) (h2 : i < cargs.size), VR w h args[i] cargs[i]) →
    Calls P f cargs w fun e w' => ∃ v x h', e = .returned v ∧ VR w' h' x v ∧ HeapOK h' w' ∧ Ev h w h' w' ∧ R x h'

theorem Sp.mono {P f args h R R'} (s : Sp P f args h R) (hr : ∀ x h', R x h' → R' x h') : Sp P f args h R' :=
  ⟨s.enter, fun w cargs a b c => (s.calls w cargs a b c).mono fun e w' ⟨v, x, h', q1, q2, q3, q4, q5⟩ => ⟨v, x, h', q1, q2, q3, q4, hr _ _ q5⟩⟩
/-- The arguments told otherwise, blocks forgotten. -/
theorem Sp.args {P f args args' h R} (s : Sp P f args' h R) (hl : args.length = args'.length) (ha : ∀ w i (h1 : i < args.length) (h2 : i < args'.length) v, VR w h args[i] v → VR w h args'[i] v) : Sp P f args h R :=
  ⟨s.enter, fun w cargs a b c => s.calls w cargs a (b.trans hl) fun i h1 h2 => ha w i (by omega) h1 _ (c i (by omega) h2)⟩

/-- The results that a frame hands back. -/
def ARes (P : Program) (fn : Func) (R : AVal → AHeap → Prop) (τ : Env) (h : AHeap) : Prop :=
  ∀ a w, Rel fn.ntmps τ h a w → ∃ v x h', (results fn a.tmps).run P w = .ok v w ∧ VR w h' x v ∧ HeapOK h' w ∧ Ev h w h' w ∧ R x h'
def APost (P : Program) (fn : Func) (R : AVal → AHeap → Prop) : Exit → Env → AHeap → Prop
  | .normal, τ, h => ARes P fn R τ h
  | .ret, τ, h => ARes P fn R τ h
  | _, _, _ => False

def entry (args : List AVal) : Env := fun i => args.getD i (.v undef)

theorem Sp.of {P : Program} {f : FuncId} {fn : Func} {c : Code} {args : List AVal} {h : AHeap} {R : AVal → AHeap → Prop} (hf : P.funcs[f]? = some fn) (hn : (fn.name == "runtime.NumGoroutine") = false) (hb : fn.body = some c)
    (hl : args.length ≤ fn.ntmps) (x : AC P fn.ntmps c (APost P fn R) (entry args) h) : Sp P f args h R := by
  refine ⟨fun cargs w => ?_, fun w cargs ho hs ha => ?_⟩
  · unfold callFunc
    simp only [Sem.run_bind, run_program, Result.andThen_ok, hf, hn, hb]
    rfl
  · refine calls_of_wp hf hb ?_
    have hr : Rel fn.ntmps (entry args) h { tmps := cargs ++ Array.replicate (fn.ntmps - cargs.size) undef, defers := [] } w := by
      refine ⟨rfl, by simp; omega, ho, fun i => ?_⟩
      rcases Nat.lt_or_ge i args.length with hi | hi
      · have h2 : i < cargs.size := by omega
        have e1 : entry args i = args[i] := by simp [entry, List.getD_eq_getElem?_getD, hi]
        have e2 : (cargs ++ Array.replicate (fn.ntmps - cargs.size) undef).getD i undef = cargs[i] := by
          rw [Array.getD_eq_getD_getElem?, Array.getElem?_append_left h2, Array.getElem?_eq_getElem h2]; rfl
        rw [e1]; show VR w h args[i] ((cargs ++ Array.replicate (fn.ntmps - cargs.size) undef).getD i undef)
        rw [e2]; exact ha i hi h2
      · have e1 : entry args i = .v undef := by simp [entry, List.getD_eq_getElem?_getD, hi]
        have e2 : (cargs ++ Array.replicate (fn.ntmps - cargs.size) undef).getD i undef = undef := by
          rw [Array.getD_eq_getD_getElem?, Array.getElem?_append_right (by omega), Array.getElem?_replicate]
          split <;> rfl
        rw [e1]; show VR w h _ ((cargs ++ Array.replicate (fn.ntmps - cargs.size) undef).getD i undef)
        rw [e2]; exact .v _
    refine wp_mono (x _ w hr) fun e a w' l => ?_
    obtain ⟨τ', h', r, f', q⟩ := l
    cases e with
    | normal =>
      obtain ⟨v, x, h2, q1, q2, q3, q4, q5⟩ := q a w' r
      exact ⟨r.defers, v, q1, v, x, h2, rfl, q2, q3, f'.trans q4, q5⟩
    | ret =>
      obtain ⟨v, x, h2, q1, q2, q3, q4, q5⟩ := q a w' r
      exact ⟨r.defers, v, q1, v, x, h2, rfl, q2, q3, f'.trans q4, q5⟩
    | exit id => exact q.elim
    | goto l => exact q.elim
    | panic c => exact q.elim
    | outgrown => exact q.elim

/-- A call. -/
theorem AOp.call_ {P : Program} {n : Nat} {o : Oper} {τ : Env} {h : AHeap} {K : AVal → AHeap → Prop} {x : Operand} {ars : Array Operand} {ts : Array TypeId} {f : FuncId} {first cap : Array Value}
    (ho : o.op = .call { callee := .value x, args := ars, argTypes := ts }) (hx : aev τ x = .v (.func (.func f) first cap))
    (s : Sp P f (first.toList.map .v ++ ars.toList.map (aev τ) ++ cap.toList.map .v) h K) : AOp P n o τ h K := by
  intro a w r NK QQ hK
  unfold Oper.wp execOp
  have e1 := r.eval_v hx
  simp only [ho, resolve, e1, Deferred.ofValue, Sem.run_bind, Sem.run_pure, Result.andThen_ok, invoke, s.enter, Oper.upon]
  refine (s.calls w _ r.heap (by simp) fun i h1 h2 => ?_).mono fun e w' q => ?_
  · have hsz : (Array.map a.eval ars).size = ars.toList.length := by simp
    rcases Nat.lt_or_ge i first.size with c1 | c1
    · have ea : (first.toList.map AVal.v ++ ars.toList.map (aev τ) ++ cap.toList.map AVal.v)[i] = .v first[i] := by
        rw [List.getElem_append_left (by simp; omega), List.getElem_append_left (by simp; omega)]; simp
      have ev : (first ++ Array.map a.eval ars ++ cap)[i] = first[i] := by
        rw [Array.getElem_append_left (by simp; omega), Array.getElem_append_left c1]
      rw [ea, ev]; exact .v _
    · rcases Nat.lt_or_ge i (first.size + ars.size) with c2 | c2
      · have hi : i - first.size < ars.size := by omega
        have ea : (first.toList.map AVal.v ++ ars.toList.map (aev τ) ++ cap.toList.map AVal.v)[i] = aev τ ars[i - first.size] := by
          rw [List.getElem_append_left (by simp; omega), List.getElem_append_right (by simp; omega)]; simp
        have ev : (first ++ Array.map a.eval ars ++ cap)[i] = a.eval ars[i - first.size] := by
          rw [Array.getElem_append_left (by simp; omega), Array.getElem_append_right c1]; simp
        rw [ea, ev]; exact r.eval _
      · simp at h2
        have hi : i - (first.size + ars.size) < cap.size := by omega
        have ea : (first.toList.map AVal.v ++ ars.toList.map (aev τ) ++ cap.toList.map AVal.v)[i] = .v cap[i - (first.size + ars.size)] := by
          rw [List.getElem_append_right (by simp; omega)]; simp
        have ev : (first ++ Array.map a.eval ars ++ cap)[i] = cap[i - (first.size + ars.size)] := by
          rw [Array.getElem_append_right (by simp; omega)]; simp
        rw [ea, ev]; exact .v _
  · obtain ⟨v, x, h', q1, q2, q3, q4, q5⟩ := q
    subst q1
    exact hK v w' x h' q2 q3 q4 q5

end Go.Ab

/- The layer's rules for single operations (1): moves, arithmetic, reading, writing, places. No statement is proved here. -/
set_option linter.unusedVariables false
set_option linter.unusedSimpArgs false
namespace Go.Ab

section
variable {P : Program} {n : Nat} {o : Oper} {τ : Env} {h : AHeap} {K : AVal → AHeap → Prop}

/-- An operation that leaves the world alone and yields x. -/
def ARun (P : Program) (n : Nat) (o : Oper) (τ : Env) (h : AHeap) (x : AVal) : Prop := ∀ a w, Rel n τ h a w → ∃ v, (execOp a.eval o).run P w = .ok (.value v) w ∧ VR w h x v
theorem AOp.of_run {x : AVal} (hr : ARun P n o τ h x) (k : K x h) : AOp P n o τ h K := by
  intro a w r NK QQ hK
  obtain ⟨v, e, hv⟩ := hr a w r
  unfold Oper.wp
  rw [e]
  exact hK v w x h hv r.heap (Ev.refl h w) k

theorem ARun.move {x : Operand} (ho : o.op = .move x) : ARun P n o τ h (aev τ x) :=
  fun a w r => ⟨a.eval x, by unfold execOp; rw [ho]; rfl, r.eval x⟩
theorem ARun.assign {x : Operand} (ho : o.op = .assign x) : ARun P n o τ h (aev τ x) :=
  fun a w r => ⟨a.eval x, by unfold execOp; rw [ho]; rfl, r.eval x⟩
theorem ARun.pick {c x y : Operand} {b : Bool} (ho : o.op = .pick c x y) (hc : aev τ c = .v (.bool b)) : ARun P n o τ h (if b = true then aev τ x else aev τ y) := by
  refine fun a w r => ⟨if b = true then a.eval x else a.eval y, ?_, ?_⟩
  · unfold execOp; rw [ho]; simp only [r.eval_v hc, asBool, Sem.run_bind, Sem.run_pure, Result.andThen_ok]
  · cases b
    · exact r.eval y
    · exact r.eval x
/-- Both hands bools. -/
theorem ARun.pickB {c x y : Operand} {b p q : Bool} (ho : o.op = .pick c x y) (hc : aev τ c = .v (.bool b)) (hx : aev τ x = .v (.bool p)) (hy : aev τ y = .v (.bool q)) : ARun P n o τ h (.v (.bool (bif b then p else q))) := by
  have r := ARun.pick (P := P) (n := n) (h := h) (x := x) (y := y) ho hc
  cases b
  · simpa [hy] using r
  · simpa [hx] using r
/-- The hand that is not taken may be unknown. -/
theorem ARun.pickT {c x y : Operand} (ho : o.op = .pick c x y) (hc : aev τ c = .v (.bool true)) : ARun P n o τ h (aev τ x) := by simpa using ARun.pick (P := P) (n := n) (h := h) (x := x) (y := y) ho hc
theorem ARun.pickF {c x y : Operand} (ho : o.op = .pick c x y) (hc : aev τ c = .v (.bool false)) : ARun P n o τ h (aev τ y) := by simpa using ARun.pick (P := P) (n := n) (h := h) (x := x) (y := y) ho hc

/-! #### Two whole numbers -/
theorem ARun.bin {op : BinOp} {t t2 : TypeId} {x y : Operand} {vx vy r : Value} (ho : o.op = .binOp op t x y t2) (hx : aev τ x = .v vx) (hy : aev τ y = .v vy)
    (hr : ∀ w, (do eqGuard op t x y vx vy; binOp op t vx vy : Sem Value).run P w = .ok r w) : ARun P n o τ h (.v r) := by
  refine fun a w rr => ⟨r, ?_, .v r⟩
  unfold execOp
  have := hr w
  simp only [ho, rr.eval_v hx, rr.eval_v hy]
  simp only [Sem.run_bind] at this ⊢
  rw [this]; rfl
section ints
variable {t t2 : TypeId} {x y : Operand} {kk : IntKind} {a b : Int}
theorem ARun.add (ho : o.op = .binOp .add t x y t2) (hx : aev τ x = .v (.int kk a)) (hy : aev τ y = .v (.int kk b)) : ARun P n o τ h (.v (.int kk (kk.wrap (a + b)))) :=
  .bin ho hx hy (fun w => by simp [go_sem, Op.intArith])
theorem ARun.sub (ho : o.op = .binOp .sub t x y t2) (hx : aev τ x = .v (.int kk a)) (hy : aev τ y = .v (.int kk b)) : ARun P n o τ h (.v (.int kk (kk.wrap (a - b)))) :=
  .bin ho hx hy (fun w => by simp [go_sem, Op.intArith])
theorem ARun.mul (ho : o.op = .binOp .mul t x y t2) (hx : aev τ x = .v (.int kk a)) (hy : aev τ y = .v (.int kk b)) : ARun P n o τ h (.v (.int kk (kk.wrap (a * b)))) :=
  .bin ho hx hy (fun w => by simp [go_sem, Op.intArith])
theorem ARun.quo (ho : o.op = .binOp .quo t x y t2) (hx : aev τ x = .v (.int kk a)) (hy : aev τ y = .v (.int kk b)) (hb : b ≠ 0) : ARun P n o τ h (.v (.int kk (kk.wrap (a.tdiv b)))) :=
  .bin ho hx hy (fun w => by simp [go_sem, Op.intDiv, hb])
theorem ARun.rem (ho : o.op = .binOp .rem t x y t2) (hx : aev τ x = .v (.int kk a)) (hy : aev τ y = .v (.int kk b)) (hb : b ≠ 0) : ARun P n o τ h (.v (.int kk (a.tmod b))) :=
  .bin ho hx hy (fun w => by simp [go_sem, Op.intDiv, hb])
def iand (k : IntKind) (a b : Int) : Int := k.wrap (BitVec.ofInt k.bits a &&& BitVec.ofInt k.bits b).toNat
def ior (k : IntKind) (a b : Int) : Int := k.wrap (BitVec.ofInt k.bits a ||| BitVec.ofInt k.bits b).toNat
def ixor (k : IntKind) (a b : Int) : Int := k.wrap (BitVec.ofInt k.bits a ^^^ BitVec.ofInt k.bits b).toNat
def iandNot (k : IntKind) (a b : Int) : Int := k.wrap (BitVec.ofInt k.bits a &&& ~~~BitVec.ofInt k.bits b).toNat
theorem ARun.and (ho : o.op = .binOp .and t x y t2) (hx : aev τ x = .v (.int kk a)) (hy : aev τ y = .v (.int kk b)) : ARun P n o τ h (.v (.int kk (iand kk a b))) :=
  .bin ho hx hy (fun w => by simp only [eqGuard_and, binOp_and, Op.intBits, iand, Sem.run_bind, Sem.run_pure, Result.andThen_ok])
theorem ARun.or (ho : o.op = .binOp .or t x y t2) (hx : aev τ x = .v (.int kk a)) (hy : aev τ y = .v (.int kk b)) : ARun P n o τ h (.v (.int kk (ior kk a b))) :=
  .bin ho hx hy (fun w => by simp only [eqGuard_or, binOp_or, Op.intBits, ior, Sem.run_bind, Sem.run_pure, Result.andThen_ok])
theorem ARun.xor (ho : o.op = .binOp .xor t x y t2) (hx : aev τ x = .v (.int kk a)) (hy : aev τ y = .v (.int kk b)) : ARun P n o τ h (.v (.int kk (ixor kk a b))) :=
  .bin ho hx hy (fun w => by simp only [eqGuard_xor, binOp_xor, Op.intBits, ixor, Sem.run_bind, Sem.run_pure, Result.andThen_ok])
theorem ARun.andNot (ho : o.op = .binOp .andNot t x y t2) (hx : aev τ x = .v (.int kk a)) (hy : aev τ y = .v (.int kk b)) : ARun P n o τ h (.v (.int kk (iandNot kk a b))) :=
  .bin ho hx hy (fun w => by simp only [eqGuard_andNot, binOp_andNot, Op.intBits, iandNot, Sem.run_bind, Sem.run_pure, Result.andThen_ok])
theorem ARun.lss (ho : o.op = .binOp .lss t x y t2) (hx : aev τ x = .v (.int kk a)) (hy : aev τ y = .v (.int kk b)) : ARun P n o τ h (.v (.bool (decide (a < b)))) :=
  .bin ho hx hy (fun w => by simp [go_sem])
theorem ARun.leq (ho : o.op = .binOp .leq t x y t2) (hx : aev τ x = .v (.int kk a)) (hy : aev τ y = .v (.int kk b)) : ARun P n o τ h (.v (.bool (decide (a ≤ b)))) :=
  .bin ho hx hy (fun w => by simp [go_sem])
theorem ARun.gtr (ho : o.op = .binOp .gtr t x y t2) (hx : aev τ x = .v (.int kk a)) (hy : aev τ y = .v (.int kk b)) : ARun P n o τ h (.v (.bool (decide (b < a)))) :=
  .bin ho hx hy (fun w => by simp [go_sem])
theorem ARun.geq (ho : o.op = .binOp .geq t x y t2) (hx : aev τ x = .v (.int kk a)) (hy : aev τ y = .v (.int kk b)) : ARun P n o τ h (.v (.bool (decide (b ≤ a)))) :=
  .bin ho hx hy (fun w => by simp [go_sem])
theorem ARun.eql (ho : o.op = .binOp .eql t x y t2) (hx : aev τ x = .v (.int kk a)) (hy : aev τ y = .v (.int kk b)) : ARun P n o τ h (.v (.bool (decide (a = b)))) :=
  .bin ho hx hy (fun w => by simp only [go_sem, Sem.run_bind, Sem.run_pure, Result.andThen_ok]; rfl)
theorem ARun.neq (ho : o.op = .binOp .neq t x y t2) (hx : aev τ x = .v (.int kk a)) (hy : aev τ y = .v (.int kk b)) : ARun P n o τ h (.v (.bool (!decide (a = b)))) :=
  .bin ho hx hy (fun w => by simp only [go_sem, Sem.run_bind, Sem.run_pure, Result.andThen_ok]; rfl)
theorem ARun.shl {yk : IntKind} (ho : o.op = .binOp .shl t x y t2) (hx : aev τ x = .v (.int kk a)) (hy : aev τ y = .v (.int yk b)) (hb : 0 ≤ b) : ARun P n o τ h (.v (.int kk (kk.wrap (a * 2 ^ min b.toNat kk.bits)))) :=
  .bin ho hx hy (fun w => by simp only [eqGuard_shl, binOp_shl, Op.shift, if_neg (Int.not_lt.2 hb), Sem.run_bind, Sem.run_pure, Result.andThen_ok])
theorem ARun.shr {yk : IntKind} (ho : o.op = .binOp .shr t x y t2) (hx : aev τ x = .v (.int kk a)) (hy : aev τ y = .v (.int yk b)) (hb : 0 ≤ b) : ARun P n o τ h (.v (.int kk (a.fdiv (2 ^ min b.toNat kk.bits)))) :=
  .bin ho hx hy (fun w => by simp only [eqGuard_shr, binOp_shr, Op.shift, if_neg (Int.not_lt.2 hb), Sem.run_bind, Sem.run_pure, Result.andThen_ok])
end ints

/-! #### One operand -/
theorem ARun.not {t : TypeId} {x : Operand} {b : Bool} (ho : o.op = .unOp .not t x) (hx : aev τ x = .v (.bool b)) : ARun P n o τ h (.v (.bool (!b))) :=
  fun a w r => ⟨_, by unfold execOp; simp only [ho, r.eval_v hx, Op.unary, Sem.run_bind, Sem.run_pure, Result.andThen_ok], .v _⟩
theorem ARun.neg {t : TypeId} {x : Operand} {kk : IntKind} {b : Int} (ho : o.op = .unOp .neg t x) (hx : aev τ x = .v (.int kk b)) : ARun P n o τ h (.v (.int kk (kk.wrap (0 - b)))) :=
  fun a w r => ⟨_, by unfold execOp; simp only [ho, r.eval_v hx, Op.unary, Op.intArith, Sem.run_bind, Sem.run_pure, Result.andThen_ok], .v _⟩
theorem ARun.convert {src dst : TypeId} {x : Operand} {k1 k2 : IntKind} {b : Int} (ho : o.op = .convert src dst x) (hs : (P.underlying src).isSome = true) (hd : P.underlying dst = some (.int k2)) (hx : aev τ x = .v (.int k1 b)) : ARun P n o τ h (.v (.int k2 (k2.wrap b))) :=
  fun a w r => ⟨_, by
    obtain ⟨d, hs⟩ := Option.isSome_iff_exists.1 hs
    unfold execOp; simp only [ho, r.eval_v hx, Go.convert, Sem.run_bind, run_underlying hs, run_underlying hd, Result.andThen_ok, Conv.intToInt, Sem.run_pure], .v _⟩
theorem ARun.extract {x : Operand} {i : Nat} {l : List AVal} {y : AVal} (ho : o.op = .extract x i) (hx : aev τ x = .tup l) (hy : l[i]? = some y) : ARun P n o τ h y := by
  refine fun a w r => ?_
  have e := r.eval x
  rw [hx] at e
  generalize hv : a.eval x = v at e
  cases e with
  | tup cs vs hl hc =>
    obtain ⟨hi, rfl⟩ := List.getElem?_eq_some_iff.1 hy
    refine ⟨vs[i], ?_, hc i hi (by omega)⟩
    unfold execOp
    simp only [ho, hv, Instr.extract, Array.getElem?_eq_getElem (show i < vs.size by omega), Sem.run_bind, Sem.run_pure, Result.andThen_ok]
theorem ARun.nilCheck {x : Operand} {ad : Addr} (ho : o.op = .nilCheck x) (hx : aev τ x = .v (.pointer (some ad))) : ARun P n o τ h (.v (.pointer (some ad))) :=
  fun a w r => ⟨_, by unfold execOp; simp only [ho, r.eval_v hx]; rfl, .v _⟩
theorem ARun.makeInterface {t : TypeId} {x : Operand} {u : Value} {d : TypeDesc} (ho : o.op = .makeInterface t x) (ht : P.underlying t = some d) (hd : (match d with | .interface _ => false | _ => true) = true) (hx : aev τ x = .v u) : ARun P n o τ h (.v (.iface t u)) :=
  fun a w r => ⟨_, by
    unfold execOp
    simp only [ho, r.eval_v hx, Instr.makeInterface, Sem.run_bind, run_underlying ht, Result.andThen_ok]
    cases d <;> first | (simp at hd; done) | rfl, .v _⟩
theorem ARun.makeFunc {fn : Fn} {first cap : Array Operand} {f' c' : Array Value} (ho : o.op = .makeFunc fn first cap) (hf : first.toList.map (aev τ) = f'.toList.map .v) (hc : cap.toList.map (aev τ) = c'.toList.map .v) : ARun P n o τ h (.v (.func fn f' c')) := by
  refine fun a w r => ⟨_, ?_, .v _⟩
  have key : ∀ (l : Array Operand) (l' : Array Value), l.toList.map (aev τ) = l'.toList.map .v → l.map a.eval = l' := by
    intro l l' e
    apply Array.ext'
    rw [Array.toList_map]
    have : ∀ (m : List Operand) (m' : List Value), m.map (aev τ) = m'.map .v → m.map a.eval = m' := by
      intro m
      induction m with
      | nil => intro m' e; cases m' with
        | nil => rfl
        | cons _ _ => cases e
      | cons z zs ih => intro m' e; cases m' with
        | nil => cases e
        | cons y ys =>
          simp only [List.map_cons, List.cons.injEq] at e ⊢
          exact ⟨r.eval_v e.1, ih ys e.2⟩
    exact this _ _ e
  unfold execOp
  simp only [ho, key _ _ hf, key _ _ hc, Instr.makeFunc, Sem.run_bind, Sem.run_pure, Result.andThen_ok]

end
end Go.Ab

/- The layer's rules for single operations (2): places, loads, stores, new variables, composite values. No statement is proved here. -/
set_option linter.unusedVariables false
set_option linter.unusedSimpArgs false
namespace Go.Ab

/-! ### Types: facts that an instance tells -/
def tagg (P : Program) (t : TypeId) : Option Bool := (P.underlying t).map fun | .struct _ | .array _ _ => true | _ => false
def tsz (P : Program) (t : TypeId) : Option Nat := (P.info? t).map (·.size)
def tby (P : Program) (t : TypeId) : Option Nat := (P.info? t).map (·.bytes)
def zcells (P : Program) (t : TypeId) : Option (List AVal) := ((P.info? t).bind (·.zero)).map fun z => z.cells.toList.map .v
def foff (P : Program) (s : TypeId) (f : Nat) : Option Nat :=
  match P.underlying s with
  | some (.struct fs) => match fs[f]? with
    | some fd => match tsz P fd.type with
      | some 0 => none
      | some _ => some fd.offset
      | none => none
    | none => none
  | _ => none

/-- A type: is it a struct or an array; how many cells; its zero value's cells. -/
class Ty (P : Program) (t : TypeId) (agg : outParam Bool) (s : outParam Nat) (zs : outParam (List AVal)) : Prop where
  agg : tagg P t = some agg
  size : tsz P t = some s
  zero : zcells P t = some zs
class Fo (P : Program) (s : TypeId) (f : Nat) (off : outParam Nat) : Prop where
  off : foff P s f = some off
/-- A slice type: its elements, their cells and bytes. -/
class Sl (P : Program) (t : TypeId) (e : outParam TypeId) (sz : outParam Nat) (bytes : outParam Nat) : Prop where
  under : P.underlying t = some (.slice e)
  size : tsz P e = some sz
  bytes : tby P e = some bytes
class Ar (P : Program) (t : TypeId) (len : outParam Nat) (e : outParam TypeId) (sz : outParam Nat) : Prop where
  under : P.underlying t = some (.array len e)
  size : tsz P e = some sz
class Ik (P : Program) (t : TypeId) (k : outParam IntKind) : Prop where
  under : P.underlying t = some (.int k)

section
variable {P : Program} (w : World)
theorem run_isAgg {t b} (h : tagg P t = some b) : (isAgg t).run P w = .ok b w := by
  unfold tagg at h
  obtain ⟨d, hd, e⟩ := Option.map_eq_some_iff.1 h
  unfold isAgg
  simp only [Sem.run_bind, run_underlying hd, Result.andThen_ok]
  cases d <;> simp_all
theorem run_sizeOf_ {t s} (h : tsz P t = some s) : (sizeOf t).run P w = .ok s w := by
  obtain ⟨i, hi, e⟩ := Option.map_eq_some_iff.1 h
  simp [sizeOf, typeInfo, hi, e]
theorem run_zeroValue_ {t zs} (h : zcells P t = some zs) : ∃ z, (zeroValue t).run P w = .ok z w ∧ z.cells.toList.map AVal.v = zs := by
  obtain ⟨z, hz, e⟩ := Option.map_eq_some_iff.1 h
  obtain ⟨i, hi, hz⟩ := Option.bind_eq_some_iff.1 hz
  exact ⟨z, by simp [zeroValue, typeInfo, hi, hz], e⟩
end

/-! ### Cells that can be read -/
def CellsAt (w : World) (h : AHeap) (b o : Nat) (cs : List AVal) : Prop :=
  ∃ C t fr, w.heap[b]? = some (.cells C t fr) ∧ o + cs.length ≤ C.size ∧ ∀ i (h1 : i < cs.length) (h2 : o + i < C.size), VR w h cs[i] C[o + i]
theorem HeapOK.cells {h w b cs t s} (ho : HeapOK h w) (e : h b = some (.cells cs t s)) : CellsAt w h b 0 cs := by
  obtain ⟨C, h1, h2, h3, h4⟩ := ho b _ e
  exact ⟨C, t, _, h1, by omega, fun i a c => by simpa using h4 i a (by omega)⟩
theorem VR.inv_lp {w h cs off y} (r : VR w h (.lp cs off) y) : ∃ b o, y = .pointer (some ⟨b, o + off, none⟩) ∧ CellsAt w h b o cs := by
  cases r with
  | lp b o off cs C t fr hb hw hl hc => exact ⟨b, o, rfl, C, t, fr, hw, hl, hc⟩
theorem CellsAt.one {w h b o cs} (c : CellsAt w h b o cs) {off : Nat} {x : AVal} (hx : cs[off]? = some x) : ∃ v, w.cell? ⟨b, o + off, none⟩ = some v ∧ VR w h x v := by
  obtain ⟨C, t, fr, hw, hl, hc⟩ := c
  obtain ⟨hi, rfl⟩ := List.getElem?_eq_some_iff.1 hx
  refine ⟨C[o + off], ?_, hc off hi (by omega)⟩
  rw [cell_of_row w b (o + off) C t fr hw]
  exact Array.getElem?_eq_getElem _
/-- Some of the cells. -/
def rdc (cs : List AVal) (off s : Nat) : Option (List AVal) := if off + s ≤ cs.length then some ((cs.drop off).take s) else none
theorem CellsAt.many {P : Program} {w h b o cs} (c : CellsAt w h b o cs) {off s : Nat} {ys : List AVal} (hy : rdc cs off s = some ys) :
    ∃ arr : Array Value, (loadCells ⟨b, o + off, none⟩ s).run P w = .ok arr w ∧ arr.size = s ∧ VR w h (.agg ys) (.agg arr) ∧ ys.length = s ∧ ∀ i (h1 : i < ys.length) (h2 : i < arr.size), VR w h ys[i] arr[i] := by
  obtain ⟨C, t, fr, hw, hl, hc⟩ := c
  unfold rdc at hy
  split at hy
  · rename_i hle
    injection hy with hy
    have hlen : ((C.toList.drop (o + off)).take s).length = s := by simp; omega
    have hyl : ys.length = s := by rw [← hy]; simp; omega
    have key : ∀ i (h1 : i < ys.length) (h2 : i < ((C.toList.drop (o + off)).take s).toArray.size), VR w h ys[i] ((C.toList.drop (o + off)).take s).toArray[i] := by
      intro i h1 h2
      have h3 := hc (off + i) (by omega) (by omega)
      subst hy
      simp only [List.getElem_take, List.getElem_drop, List.getElem_toArray, Array.getElem_toList]
      have : o + off + i = o + (off + i) := by omega
      simp only [this]
      exact h3
    refine ⟨((C.toList.drop (o + off)).take s).toArray, ?_, by simpa using hlen, .agg _ _ (by simp only [List.size_toArray]; omega) key, hyl, key⟩
    have := run_loadCells_list (P := P) w ⟨b, o + off, none⟩ ((C.toList.drop (o + off)).take s) (fun j v hj => ?_)
    · rw [hlen] at this; exact this
    · have ha : (⟨b, o + off, none⟩ : Addr).add j = ⟨b, o + off + j, none⟩ := by unfold Addr.add; split <;> simp_all
      rw [ha, cell_of_row w b _ C t fr hw]
      have hjs : j < s := by have := (List.getElem?_eq_some_iff.1 hj).1; omega
      rw [List.getElem?_take_of_lt hjs, List.getElem?_drop, Array.getElem?_toList] at hj
      exact hj
  · cases hy

/-! ### A value's cells -/
def xcells : AVal → Option (List AVal)
  | .v (.agg cs) => some (cs.toList.map .v)
  | .v (.tuple _) => none
  | .v x => some [.v x]
  | .agg cs => some cs
  | .ls n cs => some [.ls n cs]
  | .lp cs o => some [.lp cs o]
  | .tup _ => none
  | .any => none
def cellB : AVal → Bool
  | .v x => x.oneCell'
  | .ls _ _ => true
  | .lp _ _ => true
  | _ => false
theorem VR.cell {w h x v} (r : VR w h x v) (c : cellB x = true) : v.oneCell' = true := by
  cases r with
  | v x => exact c
  | any x => cases c
  | agg cs vs hl hc => cases c
  | tup cs vs hl hc => cases c
  | ls0 a c => rfl
  | ls b o n c cs C t fr hb hw hn hl hc => rfl
  | lp b o off cs C t fr hb hw hl hc => rfl
theorem VR.xcells {w h x v cs} (r : VR w h x v) (e : xcells x = some cs) : v.cells.size = cs.length ∧ ∀ i (h1 : i < cs.length) (h2 : i < v.cells.size), VR w h cs[i] v.cells[i] := by
  have one : ∀ (x : AVal) (v : Value), VR w h x v → v.cells = #[v] → v.cells.size = [x].length ∧ ∀ i (h1 : i < [x].length) (h2 : i < v.cells.size), VR w h [x][i] v.cells[i] := by
    intro x v r hv
    refine ⟨by rw [hv]; rfl, fun i h1 h2 => ?_⟩
    have : i = 0 := by simp at h1; omega
    subst this
    have e : v.cells[0] = v := by simp [hv]
    rw [e]; exact r
  cases r with
  | v =>
    cases v <;> first
      | (simp only [Ab.xcells, Option.some.injEq] at e; subst e; exact one _ _ (.v _) rfl)
      | (simp only [Ab.xcells, Option.some.injEq] at e; subst e; exact ⟨by simp [Value.cells], fun i h1 h2 => by simp [Value.cells]; exact .v _⟩)
      | (simp [Ab.xcells] at e; done)
  | any x => simp [Ab.xcells] at e
  | agg cs vs hl hc => simp only [Ab.xcells, Option.some.injEq] at e; subst e; exact ⟨hl, hc⟩
  | tup cs vs hl hc => simp [Ab.xcells] at e
  | ls0 a c => simp only [Ab.xcells, Option.some.injEq] at e; subst e; exact one _ _ (.ls0 a c) rfl
  | ls b o n c cs C t fr hb hw hn hl hc => simp only [Ab.xcells, Option.some.injEq] at e; subst e; exact one _ _ (.ls b o n c cs C t fr hb hw hn hl hc) rfl
  | lp b o off cs C t fr hb hw hl hc => simp only [Ab.xcells, Option.some.injEq] at e; subst e; exact one _ _ (.lp b o off cs C t fr hb hw hl hc) rfl

section
variable {P : Program} {n : Nat} {o : Oper} {τ : Env} {h : AHeap} {K : AVal → AHeap → Prop}

/-! ### Places -/
theorem run_fieldAt {s f off} (hf : foff P s f = some off) (b of : Nat) (w : World) : (Instr.fieldAt s (.pointer (some ⟨b, of, none⟩)) f).run P w = .ok (.pointer (some ⟨b, of + off, none⟩)) w := by
  unfold foff at hf
  split at hf <;> try (cases hf; done)
  rename_i fs hu
  split at hf <;> try (cases hf; done)
  rename_i fd hfd
  split at hf <;> try (cases hf; done)
  rename_i m hne hs
  injection hf with hf
  subst hf
  unfold Instr.fieldAt
  simp only [Sem.run_bind, run_underlying hu, Result.andThen_ok, hfd, Instr.sureAddr, Sem.run_pure, fieldPlace, run_sizeOf_ w hs]
  have : m ≠ 0 := fun e => hne (by rw [← e])
  simp only [if_neg this, Sem.run_pure, Result.andThen_ok]
  congr 3
  unfold Addr.add; split <;> simp_all
theorem ARun.fieldAddr {s : TypeId} {f off : Nat} {x : Operand} {b of : Nat} [F : Fo P s f off] (ho : o.op = .fieldAddr s x f) (hx : aev τ x = .v (.pointer (some ⟨b, of, none⟩))) : ARun P n o τ h (.v (.pointer (some ⟨b, of + off, none⟩))) :=
  fun a w r => ⟨_, by unfold execOp; simp only [ho, r.eval_v hx, Sem.run_bind, run_fieldAt F.off, Result.andThen_ok, Sem.run_pure], .v _⟩
theorem ARun.fieldAddrL {s : TypeId} {f off : Nat} {x : Operand} {cs : List AVal} {of : Nat} [F : Fo P s f off] (ho : o.op = .fieldAddr s x f) (hx : aev τ x = .lp cs of) : ARun P n o τ h (.lp cs (of + off)) := by
  refine fun a w r => ?_
  have e := r.eval x
  rw [hx] at e
  generalize hv : a.eval x = v at e
  cases e with
  | lp b o' off' cs C t fr hb hw hl hc =>
    refine ⟨.pointer (some ⟨b, o' + (of + off), none⟩), ?_, .lp b o' (of + off) cs C t fr hb hw hl hc⟩
    unfold execOp; simp only [ho, hv, Sem.run_bind, run_fieldAt F.off, Result.andThen_ok, Sem.run_pure, Nat.add_assoc]

theorem run_indexAt {t e sz by_} (S : Sl P t e sz by_) (b of len cap : Nat) (k : IntKind) (i : Int) (h0 : 0 ≤ i) (h1 : i < len) (w : World) :
    (Instr.indexAt t (.slice (some ⟨b, of, none⟩) len cap) (.int k i)).run P w = .ok (.pointer (some ⟨b, of + i.toNat * sz, none⟩)) w := by
  unfold Instr.indexAt
  simp only [Sem.run_bind, asIntOf, Sem.run_pure, Result.andThen_ok, run_underlying S.under, if_pos (show 0 ≤ i ∧ i < len from ⟨h0, h1⟩), run_sizeOf_ w S.size, Bool.and_false, Bool.false_eq_true, if_false]
  congr 3
  unfold Addr.add; split <;> simp_all
/-- In a slice of one's own. -/
theorem ARun.indexAddr {t e : TypeId} {sz by_ : Nat} {x i : Operand} {b of len cap : Nat} {kk : IntKind} {j : Int} [S : Sl P t e sz by_] (ho : o.op = .indexAddr t x i) (hx : aev τ x = .v (.slice (some ⟨b, of, none⟩) len cap)) (hi : aev τ i = .v (.int kk j))
    (h0 : 0 ≤ j) (h1 : j < len) : ARun P n o τ h (.v (.pointer (some ⟨b, of + j.toNat * sz, none⟩))) :=
  fun a w r => ⟨_, by unfold execOp; simp only [ho, r.eval_v hx, r.eval_v hi, Sem.run_bind, run_indexAt S _ _ _ _ _ _ h0 h1, Result.andThen_ok, Sem.run_pure], .v _⟩
theorem VR.inv_ls {w h m cs y} (r : VR w h (.ls m cs) y) (hm : 0 < m) : ∃ b o c, y = .slice (some ⟨b, o, none⟩) m c ∧ m ≤ c ∧ ∃ C t fr, h b = none ∧ w.heap[b]? = some (.cells C t fr) ∧ o + cs.length ≤ C.size ∧ ∀ i (h1 : i < cs.length) (h2 : o + i < C.size), VR w h cs[i] C[o + i] := by
  cases r with
  | ls0 a c => exact absurd hm (Nat.lt_irrefl _)
  | ls b o n c cs C t fr hb hw hn hl hc => exact ⟨b, o, c, rfl, hn, C, t, fr, hb, hw, hl, hc⟩
/-- In an immutable slice. -/
theorem ARun.indexAddrL {t e : TypeId} {sz by_ : Nat} {x i : Operand} {m : Nat} {cs : List AVal} {kk : IntKind} {j : Int} [S : Sl P t e sz by_] (ho : o.op = .indexAddr t x i) (hx : aev τ x = .ls m cs) (hi : aev τ i = .v (.int kk j))
    (h0 : 0 ≤ j) (h1 : j < m) : ARun P n o τ h (.lp cs (j.toNat * sz)) := by
  refine fun a w r => ?_
  have e := r.eval x
  rw [hx] at e
  obtain ⟨b, of, c, hv, hmc, C, t', fr, hb, hw, hl, hc⟩ := e.inv_ls (by omega)
  refine ⟨.pointer (some ⟨b, of + j.toNat * sz, none⟩), ?_, .lp b of _ cs C t' fr hb hw hl hc⟩
  unfold execOp
  simp only [ho, hv, r.eval_v hi, Sem.run_bind, run_indexAt S _ _ _ _ _ _ h0 h1, Result.andThen_ok, Sem.run_pure]
/-- In an array. -/
theorem ARun.indexAddrA {t e : TypeId} {sz len : Nat} {x i : Operand} {b of : Nat} {kk : IntKind} {j : Int} [S : Ar P t len e sz] (ho : o.op = .indexAddr t x i) (hx : aev τ x = .v (.pointer (some ⟨b, of, none⟩))) (hi : aev τ i = .v (.int kk j))
    (h0 : 0 ≤ j) (h1 : j < len) : ARun P n o τ h (.v (.pointer (some ⟨b, of + j.toNat * sz, none⟩))) :=
  fun a w r => ⟨_, by
    unfold execOp
    simp only [ho, r.eval_v hx, r.eval_v hi, Instr.indexAt, Sem.run_bind, asIntOf, Sem.run_pure, Result.andThen_ok, run_underlying S.under, Instr.sureAddr, if_pos (show 0 ≤ j ∧ j < len from ⟨h0, h1⟩), run_sizeOf_ w S.size]
    congr 4
    unfold Addr.add; split <;> simp_all, .v _⟩
/-! ### Loads -/
theorem run_load1 {t} (ha : tagg P t = some false) {ad : Addr} {v : Value} {w : World} (hc : w.cell? ad = some v) : (Instr.loadAt t (.pointer (some ad))).run P w = .ok v w := by
  simp [Instr.loadAt, Instr.sureAddr, loadVar, run_isAgg w ha, hc]
theorem run_loadN {t s} (ha : tagg P t = some true) (hs : tsz P t = some s) {ad : Addr} {arr : Array Value} {w : World} (hc : (loadCells ad s).run P w = .ok arr w) : (Instr.loadAt t (.pointer (some ad))).run P w = .ok (.agg arr) w := by
  simp [Instr.loadAt, Instr.sureAddr, loadVar, run_isAgg w ha, run_sizeOf_ w hs, hc]
theorem ARun.load {t : TypeId} {s : Nat} {zs : List AVal} {x : Operand} {b of sz : Nat} {cs : List AVal} {t' : TypeId} {y : AVal} [T : Ty P t false s zs] (ho : o.op = .load t x) (hx : aev τ x = .v (.pointer (some ⟨b, of, none⟩))) (hb : h b = some (.cells cs t' sz)) (hy : cs[of]? = some y) : ARun P n o τ h y := by
  refine fun a w r => ?_
  obtain ⟨v, hv, hr⟩ := (r.heap.cells hb).one hy
  refine ⟨v, ?_, hr⟩
  unfold execOp
  simp only [ho, r.eval_v hx, Sem.run_bind]
  rw [run_load1 T.agg (by simpa using hv)]; rfl
theorem ARun.loadN {t : TypeId} {s : Nat} {zs : List AVal} {x : Operand} {b of sz : Nat} {cs ys : List AVal} {t' : TypeId} [T : Ty P t true s zs] (ho : o.op = .load t x) (hx : aev τ x = .v (.pointer (some ⟨b, of, none⟩))) (hb : h b = some (.cells cs t' sz)) (hy : rdc cs of s = some ys) : ARun P n o τ h (.agg ys) := by
  refine fun a w r => ?_
  obtain ⟨arr, hv, _, hr, _⟩ := (r.heap.cells hb).many (P := P) hy
  refine ⟨.agg arr, ?_, hr⟩
  unfold execOp
  simp only [ho, r.eval_v hx, Sem.run_bind]
  rw [run_loadN T.agg T.size (by simpa using hv)]; rfl
theorem ARun.loadL {t : TypeId} {s : Nat} {zs : List AVal} {x : Operand} {of : Nat} {cs : List AVal} {y : AVal} [T : Ty P t false s zs] (ho : o.op = .load t x) (hx : aev τ x = .lp cs of) (hy : cs[of]? = some y) : ARun P n o τ h y := by
  refine fun a w r => ?_
  have e := r.eval x
  rw [hx] at e
  obtain ⟨b, of', hv, hc⟩ := e.inv_lp
  obtain ⟨v, hv2, hr⟩ := hc.one hy
  refine ⟨v, ?_, hr⟩
  unfold execOp
  simp only [ho, hv, Sem.run_bind]
  rw [run_load1 T.agg hv2]; rfl
theorem ARun.loadNL {t : TypeId} {s : Nat} {zs : List AVal} {x : Operand} {of : Nat} {cs ys : List AVal} [T : Ty P t true s zs] (ho : o.op = .load t x) (hx : aev τ x = .lp cs of) (hy : rdc cs of s = some ys) : ARun P n o τ h (.agg ys) := by
  refine fun a w r => ?_
  have e := r.eval x
  rw [hx] at e
  obtain ⟨b, of', hv, hc⟩ := e.inv_lp
  obtain ⟨arr, hv2, _, hr, _⟩ := hc.many (P := P) hy
  refine ⟨.agg arr, ?_, hr⟩
  unfold execOp
  simp only [ho, hv, Sem.run_bind]
  rw [run_loadN T.agg T.size hv2]; rfl

/-! ### Stores -/
def lput (cs : List AVal) (off : Nat) (xs : List AVal) : List AVal := cs.take off ++ xs ++ cs.drop (off + xs.length)
theorem lput_length {cs : List AVal} {off : Nat} {xs : List AVal} (hl : off + xs.length ≤ cs.length) : (lput cs off xs).length = cs.length := by
  unfold lput; simp; omega
theorem setRow_eq {w : World} {b : Nat} {C C' : Array Value} {t : TypeId} {fr : Nat × Nat} (hw : w.heap[b]? = some (.cells C t fr)) : w.setRow b C' = { w with heap := w.heap.setIfInBounds b (.cells C' t fr) } := by
  unfold World.setRow
  congr 1
  apply Array.ext_getElem?
  intro i
  by_cases hi : b = i
  · subst hi
    have hlt := lt_of_get hw
    simp only [Array.getElem?_modify, if_true, hw, Option.map_some, Array.getElem?_setIfInBounds, hlt]
  · simp [Array.getElem?_modify, Array.getElem?_setIfInBounds, hi]
/-- The cells of a block of one's own, some of them written. -/
theorem own_put {h : AHeap} {w : World} {b off t sz : Nat} {cs xs : List AVal} (ho : HeapOK h w) (hb : h b = some (.cells cs t sz)) (vs : List Value) (hl : off + xs.length ≤ cs.length) (hvl : vs.length = xs.length)
    (hv : ∀ i (h1 : i < xs.length) (h2 : i < vs.length), VR w h xs[i] vs[i]) (hone : ∀ v ∈ vs, v.oneCell' = true) :
    ∃ w', (storeCells ⟨b, off, none⟩ vs).run P w = .ok () w' ∧ HeapOK (hset h b (some (.cells (lput cs off xs) t sz))) w' ∧ Ev h w (hset h b (some (.cells (lput cs off xs) t sz))) w' := by
  obtain ⟨C, hw, hsz, hcl, hc⟩ := ho b _ hb
  have hrun := run_storeCells_at (P := P) b off t vs 0 C w hw (by omega) hone
  rw [Nat.add_zero] at hrun
  generalize hC' : (C.toList.take off ++ vs ++ C.toList.drop (off + vs.length)).toArray = C' at hrun
  have hC's : C'.size = sz := by rw [← hC']; simp; omega
  have hg : ∀ j, C'[j]? = (C.toList.take off ++ vs ++ C.toList.drop (off + vs.length))[j]? := fun j => by rw [← hC', List.getElem?_toArray]
  rw [setRow_eq hw] at hrun
  refine ⟨_, hrun, ho.write hb _ _ fun l hl' => ?_, Ev.write hb _ _⟩
  injection hl' with hl'
  subst hl'
  have hlt := lt_of_get hw
  have hev : Ev h w (hset h b (some (.cells (lput cs off xs) t sz))) { w with heap := w.heap.setIfInBounds b (.cells C' t (0, 0)) } := Ev.write hb _ _
  refine ⟨C', by simp [Array.getElem?_setIfInBounds, hlt], hC's, by rw [lput_length hl]; exact hcl, fun i h1 h2 => ?_⟩
  rw [lput_length hl] at h1
  have key : ∀ (y : AVal) (v : Value), (lput cs off xs)[i]? = some y → C'[i]? = some v → VR w h y v → VR { w with heap := w.heap.setIfInBounds b (.cells C' t (0, 0)) } (hset h b (some (.cells (lput cs off xs) t sz))) (lput cs off xs)[i] C'[i] := by
    intro y v e1 e2 r
    obtain ⟨_, rfl⟩ := List.getElem?_eq_some_iff.1 e1
    obtain ⟨_, rfl⟩ := Array.getElem?_eq_some_iff.1 e2
    exact r.mono hev
  rcases Nat.lt_or_ge i off with c1 | c1
  · refine key cs[i] C[i] ?_ ?_ (hc i h1 (by omega))
    · unfold lput
      rw [List.append_assoc, List.getElem?_append_left (by simp; omega), List.getElem?_take_of_lt c1]
      exact List.getElem?_eq_getElem _
    · rw [hg, List.append_assoc, List.getElem?_append_left (by simp; omega), List.getElem?_take_of_lt c1]
      simp
  · rcases Nat.lt_or_ge i (off + xs.length) with c2 | c2
    · refine key xs[i - off] vs[i - off] ?_ ?_ (hv (i - off) (by omega) (by omega))
      · unfold lput
        rw [List.append_assoc, List.getElem?_append_right (by simp; omega), List.getElem?_append_left (by simp; omega)]
        simp only [List.length_take]
        rw [show i - min off cs.length = i - off by omega]
        exact List.getElem?_eq_getElem _
      · rw [hg, List.append_assoc, List.getElem?_append_right (by simp; omega), List.getElem?_append_left (by simp; omega)]
        simp only [List.length_take, Array.length_toList]
        rw [show i - min off C.size = i - off by omega]
        exact List.getElem?_eq_getElem _
    · refine key cs[i] C[i] ?_ ?_ (hc i h1 (by omega))
      · unfold lput
        rw [List.getElem?_append_right (by simp; omega), List.getElem?_drop]
        simp only [List.length_append, List.length_take]
        rw [show off + xs.length + (i - (min off cs.length + xs.length)) = i by omega]
        exact List.getElem?_eq_getElem _
      · rw [hg, List.getElem?_append_right (by simp; omega), List.getElem?_drop]
        simp only [List.length_append, List.length_take, Array.length_toList]
        rw [show off + vs.length + (i - (min off C.size + vs.length)) = i by omega]
        simp

theorem AOp.of_put {d : Option Nat} {w' : World} {a : Act} {NK : Act → World → Prop} {QQ} {w : World} (hr : (execOp a.eval o).run P w = .ok .skip w') (k : NK (a.put o.dst undef) w') : o.wp P a w NK QQ := by
  unfold Oper.wp; rw [hr]; exact k
/-- A store into a block of one's own. -/
theorem AOp.store {t : TypeId} {ag : Bool} {zs : List AVal} {ad x : Operand} {b of sz : Nat} {cs xs : List AVal} {t' : TypeId} [T : Ty P t ag xs.length zs] (ho : o.op = .store t ad x) (ha : aev τ ad = .v (.pointer (some ⟨b, of, none⟩))) (hb : h b = some (.cells cs t' sz))
    (hx : xcells (aev τ x) = some xs) (k : K (.v undef) (hset h b (some (.cells (lput cs of xs) t' sz)))) (hcell : xs.all cellB = true := by rfl) (hl : of + xs.length ≤ cs.length := by exact Nat.le_of_ble_eq_true rfl) : AOp P n o τ h K := by
  intro a w r NK QQ hK
  obtain ⟨hs, hv⟩ := (r.eval x).xcells hx
  obtain ⟨w', hrun, hok, hev⟩ := own_put (P := P) r.heap hb (a.eval x).cells.toList hl (by simpa using hs) (fun i h1 h2 => by simpa using hv i h1 (by simpa using h2)) (fun v hv' => by
    obtain ⟨i, hi, rfl⟩ := List.getElem_of_mem hv'
    have h1 : i < xs.length := by simp at hi; omega
    have := (hv i h1 (by simpa using hi)).cell (List.all_eq_true.1 hcell _ (List.getElem_mem h1))
    simpa using this)
  unfold Oper.wp
  have hrun' : (execOp a.eval o).run P w = .ok .skip w' := by
    unfold execOp
    simp only [ho, r.eval_v ha, Instr.storeAt, Instr.sureAddr, storeVar, Sem.run_bind, Sem.run_pure, Result.andThen_ok, run_sizeOf_ w T.size, hs, ne_eq, not_true_eq_false, if_false, hrun]
  rw [hrun']
  exact hK undef w' _ _ (.v _) hok hev k
/-- One cell of a block of one's own. -/
theorem AOp.store1 {t : TypeId} {ag : Bool} {zs : List AVal} {ad x : Operand} {b of sz : Nat} {cs : List AVal} {y : AVal} {t' : TypeId} [T : Ty P t ag 1 zs] (ho : o.op = .store t ad x) (ha : aev τ ad = .v (.pointer (some ⟨b, of, none⟩))) (hb : h b = some (.cells cs t' sz))
    (hx : xcells (aev τ x) = some [y]) (hl : of < cs.length) (k : K (.v undef) (hset h b (some (.cells (cs.set of y) t' sz)))) (hcell : cellB y = true := by rfl) : AOp P n o τ h K := by
  have T' : Ty P t ag [y].length zs := T
  refine AOp.store (T := T') ho ha hb hx (hcell := by simpa using hcell) (hl := by simp; omega) ?_
  have : lput cs of [y] = cs.set of y := by
    unfold lput
    rw [List.set_eq_take_append_cons_drop, if_pos hl]; simp
  rw [this]; exact k

/-! ### New variables -/
theorem push_cells {h : AHeap} {w : World} (ho : HeapOK h w) (C : Array Value) (t : TypeId) (cs : List AVal) (hl : cs.length ≤ C.size) (hc : ∀ i (h1 : i < cs.length) (h2 : i < C.size), VR w h cs[i] C[i]) :
    HeapOK (hset h w.heap.size (some (.cells cs t C.size))) { w with heap := w.heap.push (.cells C t) } ∧ Ev h w (hset h w.heap.size (some (.cells cs t C.size))) { w with heap := w.heap.push (.cells C t) } := by
  refine ⟨ho.push _ _ fun k' e => ?_, Ev.push h w _ _⟩
  injection e with e
  subst e
  exact ⟨C, by simp, rfl, hl, fun i h1 h2 => (hc i h1 h2).mono (Ev.push h w _ _)⟩
/-- A new block that is nobody's own: it can be read and is never written. -/
theorem push_ls {h : AHeap} {w : World} (ho : HeapOK h w) (C : Array Value) (t : TypeId) (cs : List AVal) (hl : cs.length = C.size) (hc : ∀ i (h1 : i < cs.length) (h2 : i < C.size), VR w h cs[i] C[i]) (m : Nat) :
    HeapOK h { w with heap := w.heap.push (.cells C t) } ∧ Ev h w h { w with heap := w.heap.push (.cells C t) } ∧ VR { w with heap := w.heap.push (.cells C t) } h (.ls m cs) (.slice (some ⟨w.heap.size, 0, none⟩) m m) := by
  have hid : hset h w.heap.size none = h := hset_id ho.fresh
  have e1 := Ev.push h w none (.cells C t)
  have o1 := ho.push none (.cells C t) (fun k' e => by cases e)
  rw [hid] at e1 o1
  refine ⟨o1, e1, .ls w.heap.size 0 m m cs C t (0, 0) ho.fresh (by simp) (Nat.le_refl _) (by omega) fun i h1 h2 => ?_⟩
  simpa using (hc i h1 (by omega)).mono e1

theorem AOp.alloc {t : TypeId} {ag : Bool} {s : Nat} {zs : List AVal} [T : Ty P t ag s zs] (ho : o.op = .alloc t) (k : ∀ b, h b = none → K (.v (.pointer (some ⟨b, 0, none⟩))) (hset h b (some (.cells zs t zs.length)))) : AOp P n o τ h K := by
  intro a w r NK QQ hK
  obtain ⟨z, hz, hzs⟩ := run_zeroValue_ w T.zero
  have hlen : zs.length = z.cells.size := by rw [← hzs]; simp
  obtain ⟨hok, hev⟩ := push_cells r.heap z.cells t zs (by omega) (fun i h1 h2 => by subst hzs; simp; exact .v _)
  have hrun : (execOp a.eval o).run P w = .ok (.value (.pointer (some ⟨w.heap.size, 0, none⟩))) { w with heap := w.heap.push (.cells z.cells t) } := by
    unfold execOp
    simp only [ho, Instr.alloc, Sem.run_bind, hz, Result.andThen_ok, newVar, newRow, run_newObj, Sem.run_pure]
  unfold Oper.wp
  rw [hrun]
  rw [← hlen] at hok hev
  exact hK _ _ _ _ (.v _) hok hev (k _ r.heap.fresh)
theorem AOp.box {t : TypeId} {x : Operand} {cs : List AVal} (ho : o.op = .box t x) (hx : xcells (aev τ x) = some cs) (k : ∀ b, h b = none → K (.v (.pointer (some ⟨b, 0, none⟩))) (hset h b (some (.cells cs t cs.length)))) : AOp P n o τ h K := by
  intro a w r NK QQ hK
  obtain ⟨hs, hv⟩ := (r.eval x).xcells hx
  obtain ⟨hok, hev⟩ := push_cells r.heap (a.eval x).cells t cs (by omega) hv
  have hrun : (execOp a.eval o).run P w = .ok (.value (.pointer (some ⟨w.heap.size, 0, none⟩))) { w with heap := w.heap.push (.cells (a.eval x).cells t) } := by
    unfold execOp
    simp only [ho, Instr.box, Sem.run_bind, newVar, newRow, run_newObj, Result.andThen_ok, Sem.run_pure]
  unfold Oper.wp
  rw [hrun]
  rw [hs] at hok hev
  exact hK _ _ _ _ (.v _) hok hev (k _ r.heap.fresh)

/-! ### Values of several parts -/
/-- What stands at places of a row of cells is laid over it. -/
def afill (place : Nat → Option (Nat × Nat)) (cs : List AVal) : List (Nat × AVal) → Option (List AVal)
  | [] => some cs
  | (i, x) :: rest =>
    match place i, xcells x with
    | some (off, size), some xs => if xs.length = size ∧ off + size ≤ cs.length then afill place (lput cs off xs) rest else none
    | _, _ => none
theorem foldl_put (C : Array Value) (off : Nat) : ∀ (l : List Value) (k : Nat) (C : Array Value), off + k + l.length ≤ C.size →
    (l.zipIdx k).foldl (fun cs (cj : Value × Nat) => cs.setIfInBounds (off + cj.2) cj.1) C = (C.toList.take (off + k) ++ l ++ C.toList.drop (off + k + l.length)).toArray
  | [], k, C, h => by simp
  | v :: l, k, C, h => by
    simp only [List.zipIdx_cons, List.foldl_cons]
    rw [foldl_put C off l (k + 1) (C.setIfInBounds (off + k) v) (by simp at h ⊢; omega)]
    simp at h
    congr 1
    apply List.ext_getElem?
    intro i
    simp only [Array.toList_setIfInBounds]
    have hlen : (C.toList.set (off + k) v).length = C.size := by simp
    have hx : (List.take (off + (k + 1)) (C.toList.set (off + k) v)).length = off + k + 1 := by simp; omega
    have hy : (List.take (off + k) C.toList).length = off + k := by simp; omega
    rcases Nat.lt_trichotomy i (off + k) with c | c | c
    · rw [List.append_assoc, List.getElem?_append_left (by omega), List.getElem?_take_of_lt (by omega), List.getElem?_set_ne (by omega), List.append_assoc, List.getElem?_append_left (by omega), List.getElem?_take_of_lt c]
    · subst c
      rw [List.append_assoc, List.getElem?_append_left (by omega), List.getElem?_take_of_lt (by omega), List.getElem?_set_self (by simp; omega), List.append_assoc, List.getElem?_append_right (by omega), hy, Nat.sub_self]
      rfl
    · rcases Nat.lt_or_ge i (off + k + 1 + l.length) with d | d
      · rw [List.append_assoc, List.getElem?_append_right (by omega), hx, List.getElem?_append_left (by omega), List.append_assoc, List.getElem?_append_right (by omega), hy, List.getElem?_append_left (by simp; omega)]
        rw [show i - (off + k) = (i - (off + k + 1)) + 1 by omega, List.getElem?_cons_succ]
      · rw [List.getElem?_append_right (by rw [List.length_append]; omega), List.length_append, hx, List.getElem?_drop, List.getElem?_append_right (by rw [List.length_append, List.length_cons]; omega), List.length_append, hy, List.getElem?_drop, List.length_cons, List.getElem?_set_ne (by omega)]
        congr 1
        omega
theorem fill_ok {w h} (place : Nat → Option (Nat × Nat)) : ∀ (parts : List (Nat × AVal)) (vparts : List (Nat × Value)) (cs : List AVal) (C : Array Value) (res : List AVal),
    vparts.map (·.1) = parts.map (·.1) → (∀ i (h1 : i < parts.length) (h2 : i < vparts.length), VR w h parts[i].2 vparts[i].2) → cs.length = C.size → (∀ i (h1 : i < cs.length) (h2 : i < C.size), VR w h cs[i] C[i]) →
    afill place cs parts = some res → ∃ R, Instr.fill place C vparts = some R ∧ res.length = R.size ∧ ∀ i (h1 : i < res.length) (h2 : i < R.size), VR w h res[i] R[i]
  | [], vparts, cs, C, res, hm, hp, hl, hc, e => by
    have : vparts = [] := by simpa using hm
    subst this
    simp only [afill, Option.some.injEq] at e
    subst e
    exact ⟨C, rfl, hl, hc⟩
  | (i, x) :: parts, [], cs, C, res, hm, hp, hl, hc, e => by simp at hm
  | (i, x) :: parts, (i', v) :: vparts, cs, C, res, hm, hp, hl, hc, e => by
    simp only [List.map_cons, List.cons.injEq] at hm
    obtain ⟨rfl, hm⟩ := hm
    simp only [afill] at e
    split at e <;> try (cases e; done)
    rename_i off size xs hpl hxs
    split at e <;> try (cases e; done)
    rename_i hcond
    obtain ⟨hxl, hoff⟩ := hcond
    have r0 : VR w h x v := hp 0 (by simp) (by simp)
    obtain ⟨hs, hv⟩ := r0.xcells hxs
    have hf := foldl_put C off v.cells.toList 0 C (by simp; omega)
    have hfold : v.cells.zipIdx.foldl (fun cs (cj : Value × Nat) => cs.setIfInBounds (off + cj.2) cj.1) C = (C.toList.take off ++ v.cells.toList ++ C.toList.drop (off + v.cells.size)).toArray := by
      rw [← Array.foldl_toList, Array.toList_zipIdx]
      simpa using hf
    have hlen' : (lput cs off xs).length = (C.toList.take off ++ v.cells.toList ++ C.toList.drop (off + v.cells.size)).toArray.size := by
      rw [lput_length (by omega)]; simp; omega
    obtain ⟨R, hR, hRl, hRv⟩ := fill_ok place parts vparts (lput cs off xs) (C.toList.take off ++ v.cells.toList ++ C.toList.drop (off + v.cells.size)).toArray res hm (fun j h1 h2 => hp (j + 1) (by simp; omega) (by simp; omega)) hlen' (fun j h1 h2 => by
      have key : ∀ (y : AVal) (u : Value), (lput cs off xs)[j]? = some y → (C.toList.take off ++ v.cells.toList ++ C.toList.drop (off + v.cells.size))[j]? = some u → VR w h y u → VR w h (lput cs off xs)[j] (C.toList.take off ++ v.cells.toList ++ C.toList.drop (off + v.cells.size)).toArray[j] := by
        intro y u e1 e2 r
        obtain ⟨_, rfl⟩ := List.getElem?_eq_some_iff.1 e1
        obtain ⟨_, rfl⟩ := List.getElem?_eq_some_iff.1 e2
        simpa using r
      rw [lput_length (by omega)] at h1
      rcases Nat.lt_or_ge j off with c1 | c1
      · refine key cs[j] C[j] ?_ ?_ (hc j h1 (by omega))
        · unfold lput
          rw [List.append_assoc, List.getElem?_append_left (by simp; omega), List.getElem?_take_of_lt c1]
          exact List.getElem?_eq_getElem _
        · rw [List.append_assoc, List.getElem?_append_left (by simp; omega), List.getElem?_take_of_lt c1]
          simp
      · rcases Nat.lt_or_ge j (off + xs.length) with c2 | c2
        · refine key xs[j - off] v.cells[j - off] ?_ ?_ (hv (j - off) (by omega) (by omega))
          · unfold lput
            rw [List.append_assoc, List.getElem?_append_right (by simp; omega), List.getElem?_append_left (by simp; omega)]
            simp only [List.length_take]
            rw [show j - min off cs.length = j - off by omega]
            exact List.getElem?_eq_getElem _
          · rw [List.append_assoc, List.getElem?_append_right (by simp; omega), List.getElem?_append_left (by simp; omega)]
            simp only [List.length_take, Array.length_toList]
            rw [show j - min off C.size = j - off by omega]
            simp
        · refine key cs[j] C[j] ?_ ?_ (hc j h1 (by omega))
          · unfold lput
            rw [List.getElem?_append_right (by simp; omega), List.getElem?_drop]
            simp only [List.length_append, List.length_take]
            rw [show off + xs.length + (j - (min off cs.length + xs.length)) = j by omega]
            exact List.getElem?_eq_getElem _
          · rw [List.getElem?_append_right (by simp; omega), List.getElem?_drop]
            simp only [List.length_append, List.length_take, Array.length_toList]
            rw [show off + v.cells.size + (j - (min off C.size + v.cells.size)) = j by omega]
            simp) e
    refine ⟨R, ?_, hRl, hRv⟩
    simp only [Instr.fill, hpl]
    rw [if_neg (by simp; omega), hfold]
    exact hR
end
end Go.Ab

/- The layer's rules for single operations (3): composite values, slices made, grown, cut. No statement is proved here. -/
set_option linter.unusedVariables false
set_option linter.unusedSimpArgs false
namespace Go.Ab

/-- A struct type's fields: where each lies and how many cells it has. -/
def bplaces (P : Program) (t : TypeId) : Option (List (Nat × Nat)) :=
  match P.underlying t with
  | some (.struct fields) => fields.toList.mapM fun f => (P.info? f.type).map fun i => (f.offset, i.size)
  | _ => none
class Bd (P : Program) (t : TypeId) (pl : outParam (List (Nat × Nat))) : Prop where
  places : bplaces P t = some pl

section
variable {P : Program} {n : Nat} {o : Oper} {τ : Env} {h : AHeap} {K : AVal → AHeap → Prop}

theorem evals {n τ h a w} (r : Rel n τ h a w) (parts : Array (Nat × Operand)) (l : List (Nat × AVal)) (hl : l = parts.toList.map fun p => (p.1, aev τ p.2)) :
    ((parts.map fun (p : Nat × Operand) => (p.1, a.eval p.2)).toList).map (·.1) = l.map (·.1) ∧ ∀ i (h1 : i < l.length) (h2 : i < (parts.map fun (p : Nat × Operand) => (p.1, a.eval p.2)).toList.length), VR w h l[i].2 (parts.map fun (p : Nat × Operand) => (p.1, a.eval p.2)).toList[i].2 := by
  subst hl
  refine ⟨by simp, fun i h1 h2 => ?_⟩
  simp only [List.getElem_map, Array.toList_map]
  exact r.eval _

/-- A struct, built. -/
theorem ARun.build {t : TypeId} {s : Nat} {zs cs : List AVal} {pl : List (Nat × Nat)} {parts : Array (Nat × Operand)} [T : Ty P t true s zs] [B : Bd P t pl] (ho : o.op = .build t parts) (hc : afill (fun (i : Nat) => pl[i]?) zs (parts.toList.map fun p => (p.1, aev τ p.2)) = some cs := by rfl) : ARun P n o τ h (.agg cs) := by
  refine fun a w r => ?_
  obtain ⟨z, hz, hzs⟩ := Option.map_eq_some_iff.1 T.zero
  obtain ⟨i, hi, hz⟩ := Option.bind_eq_some_iff.1 hz
  obtain ⟨e1, e2⟩ := evals r parts _ rfl
  obtain ⟨R, hR, hRl, hRv⟩ := fill_ok (w := w) (h := h) (fun (i : Nat) => pl[i]?) _ _ zs z.cells cs e1 e2 (by rw [← hzs]; simp) (fun j h1 h2 => by subst hzs; simp; exact .v _) hc
  refine ⟨.agg R, ?_, .agg _ _ hRl.symm hRv⟩
  have hb := B.places
  unfold bplaces at hb
  split at hb <;> try (cases hb; done)
  rename_i fields hu
  have hbuilt : P.built t (parts.map fun (p : Nat × Operand) => (p.1, a.eval p.2)).toList = some R := by
    unfold Program.built
    simp only [hi, hu, hz, hb]
    have : (fun (x : Nat) => pl.toArray[x]?) = fun (i : Nat) => pl[i]? := by funext i; simp
    rw [this]; exact hR
  unfold execOp
  simp only [ho, Sem.run_bind]
  rw [run_build w t _ R hbuilt]; rfl
/-- An array, built. -/
theorem ARun.buildA {t e : TypeId} {s len sz : Nat} {zs cs : List AVal} {parts : Array (Nat × Operand)} [T : Ty P t true s zs] [B : Ar P t len e sz] (ho : o.op = .build t parts) (hc : afill (fun i => some (i * sz, sz)) zs (parts.toList.map fun p => (p.1, aev τ p.2)) = some cs := by rfl) : ARun P n o τ h (.agg cs) := by
  refine fun a w r => ?_
  obtain ⟨z, hz, hzs⟩ := Option.map_eq_some_iff.1 T.zero
  obtain ⟨i, hi, hz⟩ := Option.bind_eq_some_iff.1 hz
  obtain ⟨e1, e2⟩ := evals r parts _ rfl
  obtain ⟨R, hR, hRl, hRv⟩ := fill_ok (w := w) (h := h) (fun i => some (i * sz, sz)) _ _ zs z.cells cs e1 e2 (by rw [← hzs]; simp) (fun j h1 h2 => by subst hzs; simp; exact .v _) hc
  refine ⟨.agg R, ?_, .agg _ _ hRl.symm hRv⟩
  obtain ⟨ie, hie, hsz⟩ := Option.map_eq_some_iff.1 B.size
  have hbuilt : P.built t (parts.map fun (p : Nat × Operand) => (p.1, a.eval p.2)).toList = some R := by
    unfold Program.built
    simp only [hi, B.under, hz, hie, hsz]
    exact hR
  unfold execOp
  simp only [ho, Sem.run_bind]
  rw [run_build w t _ R hbuilt]; rfl

/-- A field of a struct value. -/
theorem run_part {w : World} {h : AHeap} {t : TypeId} {cs : List AVal} {arr : Array Value} {off : Nat} (hl : arr.size = cs.length) (hc : ∀ i (h1 : i < cs.length) (h2 : i < arr.size), VR w h cs[i] arr[i]) (ha : tagg P t = some false) {y : AVal} (hy : cs[off]? = some y) :
    ∃ v, (part t arr off).run P w = .ok v w ∧ VR w h y v := by
  obtain ⟨hi, rfl⟩ := List.getElem?_eq_some_iff.1 hy
  refine ⟨arr[off], ?_, hc off hi (by omega)⟩
  unfold part
  simp only [Sem.run_bind, run_isAgg w ha, Result.andThen_ok, Bool.false_eq_true, if_false, Array.getElem?_eq_getElem (show off < arr.size by omega), Sem.run_pure]
theorem run_partN {w : World} {h : AHeap} {t : TypeId} {s : Nat} {cs ys : List AVal} {arr : Array Value} {off : Nat} (hl : arr.size = cs.length) (hc : ∀ i (h1 : i < cs.length) (h2 : i < arr.size), VR w h cs[i] arr[i]) (ha : tagg P t = some true) (hs : tsz P t = some s) (hy : rdc cs off s = some ys) :
    ∃ v, (part t arr off).run P w = .ok v w ∧ VR w h (.agg ys) v := by
  unfold rdc at hy
  split at hy
  · rename_i hle
    injection hy with hy
    refine ⟨.agg (arr.extract off (off + s)), ?_, .agg _ _ (by rw [← hy]; simp; omega) fun i h1 h2 => ?_⟩
    · unfold part
      simp only [Sem.run_bind, run_isAgg w ha, Result.andThen_ok, if_true, run_sizeOf_ w hs, Sem.run_pure]
    · subst hy
      simp only [List.getElem_take, List.getElem_drop, Array.getElem_extract]
      exact hc _ _ _
  · cases hy
theorem ARun.index {t e : TypeId} {len sz : Nat} {zs cs : List AVal} {x i : Operand} {kk : IntKind} {j : Int} {y : AVal} [B : Ar P t len e sz] [T : Ty P e false sz zs] (ho : o.op = .index t x i) (hx : aev τ x = .agg cs) (hi : aev τ i = .v (.int kk j)) (h0 : 0 ≤ j) (h1 : j < len)
    (hy : cs[j.toNat * sz]? = some y) : ARun P n o τ h y := by
  refine fun a w r => ?_
  have ex := r.eval x
  rw [hx] at ex
  generalize hv : a.eval x = v at ex
  cases ex with
  | agg cs vs hl hc =>
    obtain ⟨u, hu, hr⟩ := run_part (P := P) (t := e) hl hc T.agg hy
    refine ⟨u, ?_, hr⟩
    unfold execOp
    simp only [ho, hv, r.eval_v hi, Instr.index, asIntOf, Sem.run_bind, Sem.run_pure, Result.andThen_ok, run_underlying B.under, if_pos (show 0 ≤ j ∧ j < len from ⟨h0, h1⟩), run_sizeOf_ w B.size, hu]

/-- The cells of n zero values. -/
def zrep (zs : List AVal) (sz m : Nat) : List AVal := (List.range m).map fun i => zs.getD (i % sz) .any
/-- A slice literal, never written. -/
theorem AOp.buildSlice {t e : TypeId} {sz by_ len : Nat} {ag : Bool} {zs cs : List AVal} {parts : Array (Nat × Operand)} [S : Sl P t e sz by_] [T : Ty P e ag sz zs] (ho : o.op = .buildSlice t len parts) (k : K (.ls len cs) h)
    (hc : afill (fun i => some (i * sz, sz)) (zrep zs sz (len * sz)) (parts.toList.map fun p => (p.1, aev τ p.2)) = some cs := by rfl) (hz : zs.length = sz := by rfl) (hsmall : len * sz ≤ 16777216 := by decide) : AOp P n o τ h K := by
  intro a w r NK QQ hK
  obtain ⟨z, hz1, hzs⟩ := run_zeroValue_ w T.zero
  obtain ⟨e1, e2⟩ := evals r parts _ rfl
  have hzl : z.cells.size = sz := by rw [← hz, ← hzs]; simp
  generalize hZ : (if len * sz = 0 then #[] else z.cells) = Z
  have hinit : ∀ i (h1 : i < (zrep zs sz (len * sz)).length) (h2 : i < ((Array.range (len * sz)).map fun x => Z[x % Z.size]!).size), VR w h (zrep zs sz (len * sz))[i] ((Array.range (len * sz)).map fun x => Z[x % Z.size]!)[i] := by
    intro i h1 h2
    have hi : i < len * sz := by simpa [zrep] using h1
    have hsz : 0 < sz := by rcases Nat.eq_zero_or_pos sz with e0 | e0
                            · subst e0; simp at hi
                            · exact e0
    have hne : len * sz ≠ 0 := by omega
    rw [if_neg hne] at hZ
    subst hZ
    have hm : i % sz < sz := Nat.mod_lt _ hsz
    simp only [zrep, List.getElem_map, List.getElem_range, Array.getElem_map, Array.getElem_range, hzl]
    have ez : zs.getD (i % sz) .any = .v z.cells[i % sz] := by
      subst hzs
      simp [List.getD_eq_getElem?_getD, hzl, hm]
    rw [ez]
    have : z.cells[i % sz]! = z.cells[i % sz] := by rw [getElem!_pos]
    rw [this]; exact .v _
  obtain ⟨R, hR, hRl, hRv⟩ := fill_ok (w := w) (h := h) (fun i => some (i * sz, sz)) _ _ (zrep zs sz (len * sz)) ((Array.range (len * sz)).map fun x => Z[x % Z.size]!) cs e1 e2 (by simp [zrep]) hinit hc
  obtain ⟨hok, hev, hvr⟩ := push_ls r.heap R e cs hRl hRv len
  have hrun : (execOp a.eval o).run P w = .ok (.value (.slice (some ⟨w.heap.size, 0, none⟩) len len)) { w with heap := w.heap.push (.cells R e) } := by
    unfold execOp
    have hn : ¬ (len * sz > 2 ^ 24) := by omega
    simp only [ho, Instr.buildSlice, Sem.run_bind, run_underlying S.under, Result.andThen_ok, run_sizeOf_ w S.size, if_neg hn, Sem.run_ite, Sem.run_pure]
    by_cases h0 : len * sz = 0
    · rw [if_pos h0] at hZ ⊢
      subst hZ
      simp only [Sem.run_pure, Result.andThen_ok, hR, newRow, Sem.run_bind, run_newObj]
    · rw [if_neg h0] at hZ ⊢
      subst hZ
      simp only [Sem.run_bind, hz1, Sem.run_pure, Result.andThen_ok, hR, newRow, run_newObj]
  unfold Oper.wp
  rw [hrun]
  exact hK _ _ _ _ hvr hok hev k

/-! ### len -/
theorem ARun.lenL {t e : TypeId} {sz by_ : Nat} {x : Operand} {m : Nat} {cs : List AVal} [S : Sl P t e sz by_] (ho : o.op = .call { callee := .builtin .len, args := #[x], argTypes := #[t] }) (hx : aev τ x = .ls m cs) : ARun P n o τ h (.v (.int .i64 m)) := by
  refine fun a w r => ⟨.int .i64 m, ?_, .v _⟩
  have ex := r.eval x
  rw [hx] at ex
  obtain ⟨ad, c, hv⟩ : ∃ ad c, a.eval x = .slice ad m c := by
    generalize a.eval x = v at ex
    cases ex with
    | ls0 a c => exact ⟨_, _, rfl⟩
    | ls b o n c cs C t fr hb hw hn hl hc => exact ⟨_, _, rfl⟩
  unfold execOp
  simp only [ho, resolve, invoke, builtin, Builtin.len_, List.map_toArray, List.map_cons, List.map_nil, Sem.run_bind, Sem.run_pure, Result.andThen_ok, hv, List.getElem?_toArray, List.getElem?_cons_zero, run_underlying S.under, goInt]
theorem ARun.lenV {t e : TypeId} {sz by_ : Nat} {x : Operand} {ad : Option Addr} {m c : Nat} [S : Sl P t e sz by_] (ho : o.op = .call { callee := .builtin .len, args := #[x], argTypes := #[t] }) (hx : aev τ x = .v (.slice ad m c)) : ARun P n o τ h (.v (.int .i64 m)) := by
  refine fun a w r => ⟨.int .i64 m, ?_, .v _⟩
  unfold execOp
  simp only [ho, resolve, invoke, builtin, Builtin.len_, List.map_toArray, List.map_cons, List.map_nil, Sem.run_bind, Sem.run_pure, Result.andThen_ok, r.eval_v hx, List.getElem?_toArray, List.getElem?_cons_zero, run_underlying S.under, goInt]
/-- min of two whole numbers -/
theorem ARun.min {t : Array TypeId} {x y : Operand} {kk : IntKind} {p q : Int} (ho : o.op = .call { callee := .builtin .min, args := #[x, y], argTypes := t }) (hx : aev τ x = .v (.int kk p)) (hy : aev τ y = .v (.int kk q)) : ARun P n o τ h (.v (.int kk (if q < p then q else p))) := by
  refine fun a w r => ⟨_, ?_, .v _⟩
  unfold execOp
  simp only [ho, resolve, invoke, builtin, Builtin.min_, List.map_toArray, List.map_cons, List.map_nil, Sem.run_bind, Sem.run_pure, Result.andThen_ok, r.eval_v hx, r.eval_v hy, List.foldlM_cons, List.foldlM_nil, Builtin.min2]

/-! ### Slices of one's own -/
/-- The slice x is nil (or of no capacity), or the head of a block that is one's own; without it one's own blocks are h0. -/
def Own (h0 : AHeap) (e : TypeId) (sz n : Nat) (cs : List AVal) (x : AVal) (h : AHeap) : Prop :=
  cs.length = n * sz ∧ ((∃ a, x = .v (.slice a 0 0) ∧ n = 0 ∧ h = h0) ∨ ∃ b c, x = .v (.slice (some ⟨b, 0, none⟩) n c) ∧ h0 b = none ∧ n ≤ c ∧ c ≤ maxLen ∧ h = hset h0 b (some (.cells cs e (c * sz))))
theorem Own.nil (h0 : AHeap) (e : TypeId) (sz : Nat) : Own h0 e sz 0 [] (.v (.slice none 0 0)) h0 := ⟨by simp, .inl ⟨none, rfl, rfl, rfl⟩⟩
theorem Own.zero (h0 : AHeap) (e : TypeId) (sz : Nat) (a : Option Addr) : Own h0 e sz 0 [] (.v (.slice a 0 0)) h0 := ⟨by simp, .inl ⟨a, rfl, rfl, rfl⟩⟩
/-- It is read, and never written any more. -/
theorem Own.freeze {h0 e sz n cs x h} (q : Own h0 e sz n cs x h) : HSub h0 h ∧ ∀ w v, HeapOK h w → VR w h x v → VR w h0 (.ls n cs) v := by
  obtain ⟨hl, ⟨a, rfl, rfl, rfl⟩ | ⟨b, c, rfl, hb, hn, hm, rfl⟩⟩ := q
  · refine ⟨HSub.refl _, fun w v _ r => ?_⟩
    have : cs = [] := List.eq_nil_of_length_eq_zero (by simpa using hl)
    subst this
    rw [r.inv_v]; exact .ls0 a 0
  · have hsub : HSub h0 (hset h0 b (some (.cells cs e (c * sz)))) := fun i k e => by
      have : i ≠ b := by rintro rfl; rw [hb] at e; cases e
      rw [hset_ne _ _ this]; exact e
    refine ⟨hsub, fun w v ho r => ?_⟩
    obtain ⟨C, h1, h2, h3, h4⟩ := ho b _ (hset_same _ _ _)
    rw [r.inv_v]
    exact .ls b 0 n c cs C e (0, 0) hb h1 hn (by omega) fun i a d => by simpa using (h4 i a (by simpa using d)).mono (hsub.ev w)

/-- An argument that is read as k elements of sz cells. -/
def RdSl (h : AHeap) (sz : Nat) (x : AVal) (k : Nat) (ys : List AVal) : Prop :=
  ys.length = k * sz ∧ ((x = .ls k ys) ∨ (∃ a c, x = .v (.slice a 0 c) ∧ k = 0) ∨ ∃ b of c cs t s, x = .v (.slice (some ⟨b, of, none⟩) k c) ∧ h b = some (.cells cs t s) ∧ rdc cs of (k * sz) = some ys)
theorem RdSl.ls {h sz k ys} (hl : ys.length = k * sz) : RdSl h sz (.ls k ys) k ys := ⟨hl, .inl rfl⟩
theorem RdSl.get {h sz x k ys w v} (q : RdSl h sz x k ys) (ho : HeapOK h w) (r : VR w h x v) :
    ∃ (ad : Option Addr) (c : Nat) (news : List Value), v = .slice ad k c ∧ news.length = k * sz ∧ (0 < k → ∃ b of, ad = some ⟨b, of, none⟩ ∧ ∀ j u, news[j]? = some u → w.cell? ⟨b, of + j, none⟩ = some u) ∧ ∀ i (h1 : i < ys.length) (h2 : i < news.length), VR w h ys[i] news[i] := by
  have fromCells : ∀ {b of : Nat} {cs : List AVal} {off : Nat} {c : Nat}, CellsAt w h b of cs → rdc cs off (k * sz) = some ys → v = .slice (some ⟨b, of + off, none⟩) k c → ∃ (ad : Option Addr) (c : Nat) (news : List Value), v = .slice ad k c ∧ news.length = k * sz ∧ (0 < k → ∃ b of, ad = some ⟨b, of, none⟩ ∧ ∀ j u, news[j]? = some u → w.cell? ⟨b, of + j, none⟩ = some u) ∧ ∀ i (h1 : i < ys.length) (h2 : i < news.length), VR w h ys[i] news[i] := by
    intro b of cs off c hc hy hv
    obtain ⟨C, t, fr, hw, hl, hcc⟩ := hc
    unfold rdc at hy
    split at hy
    · rename_i hle
      injection hy with hy
      refine ⟨_, c, (C.toList.drop (of + off)).take (k * sz), hv, by simp; omega, fun _ => ⟨b, of + off, rfl, fun j u hj => ?_⟩, fun i h1 h2 => ?_⟩
      · rw [cell_of_row w b _ C t fr hw]
        have hjs : j < k * sz := by have := (List.getElem?_eq_some_iff.1 hj).1; simp at this; omega
        rw [List.getElem?_take_of_lt hjs, List.getElem?_drop, Array.getElem?_toList] at hj
        exact hj
      · subst hy
        have h3 := hcc (off + i) (by simp at h1; omega) (by simp at h1 h2; omega)
        simp only [List.getElem_take, List.getElem_drop, Array.getElem_toList]
        have : of + off + i = of + (off + i) := by omega
        simp only [this]
        exact h3
    · cases hy
  obtain ⟨hl, rfl | ⟨a, c, rfl, rfl⟩ | ⟨b, of, c, cs, t, s, rfl, hb, hy⟩⟩ := q
  · cases r with
    | ls0 a c => exact ⟨a, c, [], rfl, by simp, fun h => absurd h (Nat.lt_irrefl _), fun i h1 _ => by simp at h1⟩
    | ls b o n c cs C t fr hb hw hn hl' hc => exact fromCells (off := 0) ⟨C, t, fr, hw, hl', hc⟩ (by unfold rdc; rw [if_pos (by omega)]; simp [← hl]) rfl
  · refine ⟨a, c, [], r.inv_v, by simp, fun h => absurd h (Nat.lt_irrefl _), fun i h1 h2 => by simp at h2⟩
  · exact fromCells (c := c) (ho.cells hb) hy (by rw [r.inv_v]; simp)

theorem run_append_none {t ty e : TypeId} {sz by_ : Nat} (S : Sl P t e sz by_) (ad ad' : Option Addr) (n c c' : Nat) (hn : n ≤ c) (w : World) :
    (Builtin.append_ #[t, t] ty #[.slice ad n c, .slice ad' 0 c']).run P w = .ok (.slice ad n c) w := by
  have hu := S.under
  obtain ⟨i, hi, hs⟩ := Option.map_eq_some_iff.1 S.size
  cases ad <;> cases ad' <;> simp [Builtin.append_, run_underlying hu, sizeOf, typeInfo, hi, Builtin.lenOf, Builtin.firstCells, hn, loadCells, loadCellsFrom, storeCells]
theorem run_append_zero {t ty e : TypeId} {sz by_ : Nat} (S : Sl P t e sz by_) (a a' : Addr) (k c' : Nat) (hk : 0 < k) (w : World) :
    (Builtin.append_ #[t, t] ty #[.slice (some a) 0 0, .slice (some a') k c']).run P w = (Builtin.append_ #[t, t] ty #[.slice none 0 0, .slice (some a') k c']).run P w := by
  have hu := S.under
  obtain ⟨i, hi, hs⟩ := Option.map_eq_some_iff.1 S.size
  have hne : ¬ (0 + k ≤ 0) := by omega
  have hne2 : k ≠ 0 := by omega
  simp only [Builtin.append_, List.getElem?_toArray, List.getElem?_cons_zero, List.getElem?_cons_succ, Sem.run_bind, run_underlying hu, Result.andThen_ok, run_sizeOf_ w S.size, Sem.run_pure, Builtin.lenOf, if_neg hne, typeInfo, run_program, hi,
    Bool.false_eq_true, if_false, Builtin.firstCells, Nat.zero_mul, loadCells, loadCellsFrom, Sem.run_ite]
  split
  · rfl
  · split
    · simp only [Builtin.mayShare, Sem.run_bind, Sem.run_pure, Result.andThen_ok, Builtin.holdsCells, run_shape]
      cases w.shape? a.block <;> cases w.shape? a'.block <;> simp [Sem.run_ite] <;> (repeat' split) <;> simp
    · simp

/-- append -/
theorem AOp.append {h0 : AHeap} {t e : TypeId} {sz by_ m k : Nat} {ag : Bool} {zs cs ys : List AVal} {s x : Operand} [S : Sl P t e sz by_] [T : Ty P e ag sz zs] (ho : o.op = .call { callee := .builtin .append, args := #[s, x], argTypes := #[t, t] })
    (hs : Own h0 e sz m cs (aev τ s) h) (hx : RdSl h sz (aev τ x) k ys) (hlen : m + k ≤ maxLen) (hb : (m + k) * by_ ≤ 140737488355328)
    (kk : ∀ x' h', Own h0 e sz (m + k) (cs ++ ys) x' h' → K x' h') (hcell : ys.all cellB = true := by rfl) (hz : zs.length = sz := by rfl) (hsz : 0 < sz := by decide) : AOp P n o τ h K := by
  intro a w r NK QQ hK
  obtain ⟨hlc, hown⟩ := hs
  have hxl := hx.1
  obtain ⟨ad, c', news, hxv, hnl, hcells, hnv⟩ := hx.get r.heap (r.eval x)
  have hone : ∀ u ∈ news, u.oneCell' = true := fun u hu => by
    obtain ⟨i, hi, rfl⟩ := List.getElem_of_mem hu
    exact (hnv i (by omega) hi).cell (List.all_eq_true.1 hcell _ (List.getElem_mem _))
  have hexec : ∀ v v' w', a.eval s = v → (Builtin.append_ #[t, t] o.type #[v, .slice ad k c']).run P w = .ok v' w' → (execOp a.eval o).run P w = .ok (.value v') w' := by
    intro v v' w' hv hr
    unfold execOp
    simp only [ho, resolve, invoke, builtin, List.map_toArray, List.map_cons, List.map_nil, Sem.run_bind, Sem.run_pure, Result.andThen_ok, hv, hxv, hr]
  have hxsl : xcells (.ls 0 []) = some [.ls 0 []] := rfl
  rcases Nat.eq_zero_or_pos k with hk | hk
  · subst hk
    have hys : ys = [] := List.eq_nil_of_length_eq_zero (by simpa using hxl)
    subst hys
    have hfin : ∀ ad' m' c'', a.eval s = .slice ad' m' c'' → m' ≤ c'' → Own h0 e sz m cs (.v (.slice ad' m' c'')) h → o.wp P a w NK QQ := by
      intro ad' m' c'' hv hle hq
      unfold Oper.wp
      rw [hexec _ _ _ hv (run_append_none S _ _ _ _ _ hle w)]
      refine hK _ _ _ _ (.v _) r.heap (Ev.refl h w) (kk _ _ ?_)
      simpa using hq
    rcases hown with ⟨a0, hx0, rfl, rfl⟩ | ⟨b, c, hx0, hb0, hn, hm, rfl⟩
    · exact hfin _ _ _ (r.eval_v hx0) (Nat.le_refl _) ⟨hlc, .inl ⟨a0, rfl, rfl, rfl⟩⟩
    · exact hfin _ _ _ (r.eval_v hx0) hn ⟨hlc, .inr ⟨b, c, rfl, hb0, hn, hm, rfl⟩⟩
  · obtain ⟨bx, ofx, rfl, hcl⟩ := hcells hk
    obtain ⟨ie, hie, hsize⟩ := Option.map_eq_some_iff.1 S.size
    obtain ⟨ie', hie', hbytes⟩ := Option.map_eq_some_iff.1 S.bytes
    obtain rfl : ie = ie' := by rw [hie] at hie'; injection hie'
    obtain ⟨z, hzz, hzs⟩ := Option.map_eq_some_iff.1 T.zero
    obtain ⟨iz, hiz, hzz⟩ := Option.bind_eq_some_iff.1 hzz
    obtain rfl : ie = iz := by rw [hie] at hiz; injection hiz
    have hzl : z.cells.size = sz := by rw [← hz, ← hzs]; simp
    have hnews : ∀ j u, news[j]? = some u → w.cell? ((⟨bx, ofx, none⟩ : Addr).add j) = some u := by
      intro j u hu
      have ha : (⟨bx, ofx, none⟩ : Addr).add j = ⟨bx, ofx + j, none⟩ := by unfold Addr.add; split <;> simp_all
      rw [ha]; exact hcl j u hu
    -- what the slice holds, in plain values
    obtain ⟨v, xs, hv, howns, hxs⟩ : ∃ v xs, (∀ v' w', (Builtin.append_ #[t, t] o.type #[v, .slice (some ⟨bx, ofx, none⟩) k c']).run P w = .ok v' w' → (Builtin.append_ #[t, t] o.type #[a.eval s, .slice (some ⟨bx, ofx, none⟩) k c']).run P w = .ok v' w') ∧ w.ownsRow 0 e sz v m xs ∧
        ((v = .slice none 0 0 ∧ m = 0 ∧ cs = [] ∧ xs = [] ∧ h = h0) ∨ ∃ b c, v = .slice (some ⟨b, 0, none⟩) m c ∧ h0 b = none ∧ h = hset h0 b (some (.cells cs e (c * sz))) ∧ xs.length = cs.length ∧ ∀ i (h1 : i < cs.length) (h2 : i < xs.length), VR w h cs[i] xs[i]) := by
      rcases hown with ⟨a0, hx0, rfl, rfl⟩ | ⟨b, c, hx0, hb0, hn, hm, rfl⟩
      · have hcs : cs = [] := List.eq_nil_of_length_eq_zero (by simpa using hlc)
        subst hcs
        refine ⟨.slice none 0 0, [], fun v' w' hr => ?_, World.ownsRow_nil w 0 e sz, .inl ⟨rfl, rfl, rfl, rfl, rfl⟩⟩
        rw [r.eval_v hx0]
        cases a0 with
        | none => exact hr
        | some a0 => rw [run_append_zero S a0 _ k c' hk w]; exact hr
      · obtain ⟨C, h1, h2, h3, h4⟩ := r.heap b _ (hset_same _ _ _)
        refine ⟨.slice (some ⟨b, 0, none⟩) m c, C.toList.take (m * sz), fun v' w' hr => by rw [r.eval_v hx0]; exact hr, ⟨by simp; omega, .inr ⟨b, c, C, rfl, Nat.zero_le _, h1, hn, hm, h2, rfl⟩⟩, .inr ⟨b, c, rfl, hb0, rfl, by simp; omega, fun i a1 a2 => by simpa using h4 i a1 (by simp at a2; omega)⟩⟩
    obtain ⟨v', w', hrun, ⟨hol, hown'⟩, hgr, hiff, hat⟩ := run_append_own_at (P := P) w 0 t o.type e ie z sz by_ S.under hie hzz hsize hbytes hzl hsz v m xs howns ⟨bx, ofx, none⟩ k c' news hnl hnews hone hlen hb (Nat.zero_le _)
    have hexec' := hexec _ v' w' rfl (hv _ _ hrun)
    rcases hown' with ⟨_, h0'⟩ | ⟨g, cap, cur, rfl, _, hgw, hncap, hcm, hcs', htake⟩
    · omega
    · have hnewlen : (cs ++ ys).length = (m + k) * sz := by rw [List.length_append, hlc, hxl, Nat.add_mul]
      have hcsxs : xs.length = cs.length := by
        rcases hxs with ⟨_, _, e1, e2, _⟩ | ⟨_, _, _, _, _, e1, _⟩
        · rw [e1, e2]; rfl
        · exact e1
      have hxv2 : ∀ i (h1 : i < cs.length) (h2 : i < xs.length), VR w h cs[i] xs[i] := by
        rcases hxs with ⟨_, _, e1, e2, _⟩ | ⟨_, _, _, _, _, _, e1⟩
        · intro i h1; rw [e1] at h1; simp at h1
        · exact e1
      have hg0 : h0 g = none ∧ (∀ i, i < w.heap.size → h i = none → i ≠ g ∧ w'.heap[i]? = w.heap[i]?) ∧ (∀ i, i ≠ g → ∀ q, h0 i = some q → h i = some q ∧ w'.heap[i]? = w.heap[i]?) := by
        rcases hxs with ⟨rfl, rfl, rfl, rfl, rfl⟩ | ⟨b, c, rfl, hb0, rfl, _, _⟩
        · have hg : g = w.heap.size := by
            rcases hat with e1 | e1
            · simp [Value.ownBlock] at e1
            · simpa [Value.ownBlock] using e1
          subst hg
          refine ⟨r.heap.fresh, fun i hi hn => ⟨Nat.ne_of_lt hi, hgr.block i hi (by simp [Value.ownBlock])⟩, fun i hi q hq => ⟨hq, hgr.block i (r.heap.lt hq) (by simp [Value.ownBlock])⟩⟩
        · have hbk : ∀ i, i < w.heap.size → i ≠ b → w'.heap[i]? = w.heap[i]? := fun i hi hne => hgr.block i hi (by simp [Value.ownBlock, hne])
          have h0h : ∀ i q, h0 i = some q → i ≠ b ∧ (hset h0 b (some (.cells cs e (c * sz)))) i = some q := by
            intro i q hq
            have hne : i ≠ b := by rintro rfl; rw [hb0] at hq; cases hq
            exact ⟨hne, by rw [hset_ne _ _ hne]; exact hq⟩
          rcases hat with e1 | e1
          · have hg : g = b := by simpa [Value.ownBlock] using e1
            subst hg
            refine ⟨hb0, fun i hi hn => ?_, fun i hi q hq => ⟨(h0h i q hq).2, hbk i (r.heap.lt (h0h i q hq).2) hi⟩⟩
            have hne : i ≠ g := by rintro rfl; rw [hset_same] at hn; cases hn
            exact ⟨hne, hbk i hi hne⟩
          · have hg : g = w.heap.size := by simpa [Value.ownBlock] using e1
            subst hg
            have hfr := r.heap.fresh
            have hbs : b < w.heap.size := r.heap.lt (hset_same _ _ _)
            refine ⟨by rw [hset_ne _ _ (Nat.ne_of_gt hbs)] at hfr; exact hfr, fun i hi hn => ?_, fun i hi q hq => ⟨(h0h i q hq).2, hbk i (r.heap.lt (h0h i q hq).2) (h0h i q hq).1⟩⟩
            have hne : i ≠ b := by rintro rfl; rw [hset_same] at hn; cases hn
            exact ⟨Nat.ne_of_lt hi, hbk i hi hne⟩
      obtain ⟨hg0, hgold, hgown⟩ := hg0
      have hev : Ev h w (hset h0 g (some (.cells (cs ++ ys) e (cap * sz)))) w' := by
        refine ⟨hgr.size, fun i hi hn => ?_, hgr.os, hgr.tape, hgr.output⟩
        obtain ⟨hne, hs⟩ := hgold i hi hn
        refine ⟨?_, hs⟩
        rw [hset_ne _ _ hne]
        cases hq : h0 i with
        | none => rfl
        | some q => exact absurd ((hgown i hne q hq).1.symm.trans hn) (by simp)
      have hok : HeapOK (hset h0 g (some (.cells (cs ++ ys) e (cap * sz)))) w' := by
        intro i q hq
        by_cases hne : i = g
        · subst hne
          rw [hset_same] at hq
          injection hq with hq
          subst hq
          refine ⟨cur, hgw, hcs', by rw [hnewlen]; exact Nat.mul_le_mul_right _ hncap, fun j h1 h2 => ?_⟩
          have hj : j < (m + k) * sz := by omega
          have hcur : cur[j]? = (xs ++ news)[j]? := by rw [← htake, List.getElem?_take_of_lt hj, Array.getElem?_toList]
          rcases Nat.lt_or_ge j cs.length with c1 | c1
          · have e1 : (cs ++ ys)[j] = cs[j] := List.getElem_append_left c1
            have e2 : cur[j] = xs[j]'(by omega) := by
              rw [List.getElem?_append_left (by omega), Array.getElem?_eq_getElem h2, List.getElem?_eq_getElem (by omega)] at hcur
              exact Option.some.inj hcur
            rw [e1, e2]; exact (hxv2 j c1 (by omega)).mono hev
          · have hjy : j - cs.length < ys.length := by simp at h1; omega
            have e1 : (cs ++ ys)[j] = ys[j - cs.length] := List.getElem_append_right c1
            have e2 : cur[j] = news[j - cs.length]'(by omega) := by
              rw [List.getElem?_append_right (by omega), Array.getElem?_eq_getElem h2, hcsxs, List.getElem?_eq_getElem (by omega)] at hcur
              exact Option.some.inj hcur
            rw [e1, e2]; exact (hnv _ hjy (by omega)).mono hev
        · rw [hset_ne _ _ hne] at hq
          obtain ⟨h1, h2⟩ := hgown i hne q hq
          exact (r.heap i q h1).mono hev h2
      unfold Oper.wp
      rw [hexec']
      exact hK _ _ _ _ (.v _) hok hev (kk _ _ ⟨hnewlen, .inr ⟨g, cap, rfl, hg0, hncap, hcm, rfl⟩⟩)

/-- make([]T, m): all zero, one's own. -/
theorem AOp.makeSlice {t e : TypeId} {sz by_ : Nat} {ag : Bool} {zs : List AVal} {x y : Operand} {k1 k2 : IntKind} {m : Int} [S : Sl P t e sz by_] [T : Ty P e ag sz zs] (ho : o.op = .makeSlice t x y) (hx : aev τ x = .v (.int k1 m)) (hy : aev τ y = .v (.int k2 m))
    (h0 : 0 ≤ m) (hb : (by_ : Int) * m ≤ 281474976710656) (h63 : m ≤ 9223372036854775807) (kk : ∀ b, h b = none → K (.v (.slice (some ⟨b, 0, none⟩) m.toNat m.toNat)) (hset h b (some (.cells (zrep zs sz (m.toNat * sz)) e (m.toNat * sz))))) (hz : zs.length = sz := by rfl) (hsz : 0 < sz := by decide) : AOp P n o τ h K := by
  intro a w r NK QQ hK
  obtain ⟨ie, hie, hsize⟩ := Option.map_eq_some_iff.1 S.size
  obtain ⟨ie', hie', hbytes⟩ := Option.map_eq_some_iff.1 S.bytes
  obtain rfl : ie = ie' := by rw [hie] at hie'; injection hie'
  obtain ⟨z, hzz, hzs⟩ := Option.map_eq_some_iff.1 T.zero
  obtain ⟨iz, hiz, hzz⟩ := Option.bind_eq_some_iff.1 hzz
  obtain rfl : ie = iz := by rw [hie] at hiz; injection hiz
  have hzl : z.cells.size = sz := by rw [← hz, ← hzs]; simp
  have hrun := run_make (P := P) w t e ie z S.under hie hzz k1 k2 m m h0 (Int.le_refl _) (by rw [hbytes]; exact hb) h63
  rw [hsize] at hrun
  have hcsz : (madeCells z.cells (m.toNat * sz)).size = m.toNat * sz := size_madeCells _ _
  obtain ⟨hok, hev⟩ := push_cells r.heap (madeCells z.cells (m.toNat * sz)) e (zrep zs sz (m.toNat * sz)) (by rw [hcsz]; simp [zrep]) (fun i h1 h2 => by
    have hi : i < m.toNat * sz := by simpa [zrep] using h1
    have hm : i % sz < sz := Nat.mod_lt _ hsz
    simp only [zrep, madeCells, List.getElem_map, List.getElem_range, Array.getElem_map, Array.getElem_range, hzl]
    have ez : zs.getD (i % sz) .any = .v z.cells[i % sz] := by
      subst hzs
      simp [List.getD_eq_getElem?_getD, hzl, hm]
    rw [ez]
    have : z.cells[i % sz]! = z.cells[i % sz] := by rw [getElem!_pos]
    rw [this]; exact .v _)
  rw [hcsz] at hok hev
  have hexec : (execOp a.eval o).run P w = .ok (.value (.slice (some ⟨w.heap.size, 0, none⟩) m.toNat m.toNat)) { w with heap := w.heap.push (.cells (madeCells z.cells (m.toNat * sz)) e) } := by
    unfold execOp
    simp only [ho, r.eval_v hx, r.eval_v hy, Sem.run_bind, hrun, Result.andThen_ok, Sem.run_pure]
    rfl
  unfold Oper.wp
  rw [hexec]
  exact hK _ _ _ _ (.v _) hok hev (kk _ r.heap.fresh)

end
end Go.Ab

/- The program's data as plain Lean data, and how it lies in cells. No statement is proved here. -/
set_option linter.unusedVariables false
namespace Go.Ab

def eI (n : Int) : AVal := .v (.int .i64 n)
def eU (n : Int) : AVal := .v (.int .u64 n)
def eB (b : Bool) : AVal := .v (.bool b)
def eIs (l : List Int) : AVal := .ls l.length (l.map eI)
def eUs (l : List Int) : AVal := .ls l.length (l.map eU)
def eBs (l : List Bool) : AVal := .ls l.length (l.map eB)
def eIss (l : List (List Int)) : AVal := .ls l.length (l.map eIs)
def eBss (l : List (List Bool)) : AVal := .ls l.length (l.map eBs)

structure DTerm where
  op : Int
  cond : Int
  wide : Bool
  a : Int
  b : Int
  to : Int
  els : Int
  deriving DecidableEq
structure DPhi where
  id : Int
  frm : List Int
  deriving DecidableEq
structure DNode where
  op : Int
  id : Int
  alu : Int
  wide : Bool
  a : Int
  b : Int
  imm : Int
  size : Int
  off : Int
  guard : Bool
  args : List Int
  at_ : Int
  deriving DecidableEq
structure DPart where
  pred : List Int
  phis : List DPhi
  nodes : List DNode
  end_ : DTerm
  deriving DecidableEq
structure DIr where
  parts : List DPart
  values : Int
  deriving DecidableEq

def eTerm (t : DTerm) : List AVal := [eI t.op, eI t.cond, eB t.wide, eI t.a, eI t.b, eI t.to, eI t.els]
def ePhi (p : DPhi) : List AVal := [eI p.id, eIs p.frm]
def eNode (n : DNode) : List AVal := [eI n.op, eI n.id, eI n.alu, eB n.wide, eI n.a, eI n.b, eU n.imm, eI n.size, eI n.off, eB n.guard, eIs n.args, eI n.at_]
def ePhis (l : List DPhi) : AVal := .ls l.length (l.flatMap ePhi)
def eNodes (l : List DNode) : AVal := .ls l.length (l.flatMap eNode)
def ePart (p : DPart) : List AVal := [eIs p.pred, ePhis p.phis, eNodes p.nodes, eI p.end_.op, eI p.end_.cond, eB p.end_.wide, eI p.end_.a, eI p.end_.b, eI p.end_.to, eI p.end_.els]
def eParts (l : List DPart) : AVal := .ls l.length (l.flatMap ePart)
def eIr (f : DIr) : List AVal := [eParts f.parts, eI f.values]

theorem flatMap_length {α : Type} (f : α → List AVal) (s : Nat) (hf : ∀ x, (f x).length = s) : ∀ l : List α, (l.flatMap f).length = l.length * s
  | [] => by simp
  | x :: l => by rw [List.flatMap_cons, List.length_append, hf, flatMap_length f s hf l, List.length_cons, Nat.succ_mul, Nat.add_comm]
theorem flatMap_drop {α : Type} (f : α → List AVal) (s : Nat) (hf : ∀ x, (f x).length = s) : ∀ (l : List α) (i : Nat), (l.flatMap f).drop (i * s) = (l.drop i).flatMap f
  | [], i => by simp
  | x :: l, 0 => by simp
  | x :: l, i + 1 => by
    rw [List.flatMap_cons, List.drop_append, hf, List.drop_succ_cons, ← flatMap_drop f s hf l i]
    have : (f x).drop ((i + 1) * s) = [] := List.drop_eq_nil_of_le (by rw [hf, Nat.succ_mul]; omega)
    rw [this, List.nil_append]
    congr 1
    rw [Nat.succ_mul]; omega
/-- An element of a slice of structs, read whole. -/
theorem rdc_flatMap {α : Type} {f : α → List AVal} {s : Nat} (hf : ∀ x, (f x).length = s) {l : List α} {i : Nat} (hi : i < l.length) : rdc (l.flatMap f) (i * s) s = some (f l[i]) := by
  unfold rdc
  have hlen := flatMap_length f s hf l
  have h1 : (i + 1) * s ≤ l.length * s := Nat.mul_le_mul_right s hi
  rw [Nat.succ_mul] at h1
  rw [if_pos (by omega), flatMap_drop f s hf, List.drop_eq_getElem_cons hi, List.flatMap_cons, ← hf l[i], List.take_left]
/-- A field of an element. -/
theorem get_flatMap {α : Type} {f : α → List AVal} {s : Nat} (hf : ∀ x, (f x).length = s) {l : List α} {i j : Nat} (hi : i < l.length) (hj : j < s) : (l.flatMap f)[i * s + j]? = (f l[i])[j]? := by
  have h := flatMap_drop f s hf l i
  rw [← List.getElem?_drop, h, List.drop_eq_getElem_cons hi, List.flatMap_cons, List.getElem?_append_left (by rw [hf]; exact hj)]
theorem rdc_flatMap_at {α : Type} {f : α → List AVal} {s : Nat} (hf : ∀ x, (f x).length = s) {l : List α} {i j m : Nat} (hi : i < l.length) (hj : j + m ≤ s) : rdc (l.flatMap f) (i * s + j) m = rdc (f l[i]) j m := by
  unfold rdc
  have hlen := flatMap_length f s hf l
  have h1 : (i + 1) * s ≤ l.length * s := Nat.mul_le_mul_right s hi
  rw [Nat.succ_mul] at h1
  rw [if_pos (by omega), if_pos (by rw [hf]; omega), ← List.drop_drop, flatMap_drop f s hf, List.drop_eq_getElem_cons hi, List.flatMap_cons]
  rw [List.drop_append_of_le_length (by rw [hf]; omega), List.take_append_of_le_length (by rw [List.length_drop, hf]; omega)]
theorem ePart_len (p : DPart) : (ePart p).length = 10 := rfl
theorem eNode_len (p : DNode) : (eNode p).length = 12 := rfl
theorem ePhi_len (p : DPhi) : (ePhi p).length = 2 := rfl
theorem all_map_eI (l : List Int) : (l.map eI).all cellB = true := by simp [eI, cellB, Value.oneCell']
theorem toNat_cast (k : Nat) : ((k : Int)).toNat = k := Int.toNat_natCast k
theorem wrap_i64 {n : Int} (h0 : -9223372036854775808 ≤ n) (h1 : n ≤ 9223372036854775807) : IntKind.i64.wrap n = n := by rw [IntKind.wrap_i64]; omega

end Go.Ab

namespace Go.Ab
theorem eI_wrap {n m : Int} (h0 : -9223372036854775808 ≤ n) (h1 : n ≤ 9223372036854775807) (e : n = m) : AVal.v (.int .i64 (IntKind.i64.wrap n)) = eI m := by rw [wrap_i64 h0 h1, e]; rfl
theorem take_succ_map {α β : Type} (f : α → β) {l : List α} {k : Nat} (h : k < l.length) : (l.take (k + 1)).map f = (l.take k).map f ++ [f l[k]] := by
  rw [List.take_succ_eq_append_getElem h, List.map_append]; rfl
theorem take_all {α : Type} {l : List α} {k : Nat} (h : l.length ≤ k) : l.take k = l := List.take_of_length_le h
end Go.Ab

namespace Go.Ab
theorem get_map {α : Type} {f : α → AVal} {l : List α} {k : Nat} (hk : k < l.length) : (l.map f)[((k : Int)).toNat * 1]? = some (f l[k]) := by
  rw [Int.toNat_natCast, Nat.mul_one, List.getElem?_map, List.getElem?_eq_getElem hk]; rfl
theorem get_map2 {α : Type} {f : α → AVal} {l : List α} {k : Nat} (hk : k < l.length) : (l.map f)[k]? = some (f l[k]) := by
  rw [List.getElem?_map, List.getElem?_eq_getElem hk]; rfl
end Go.Ab

/- The layer's rules (4): variables that are never written again, what is known of one's own blocks, results. No statement is proved here. -/
set_option linter.unusedVariables false
set_option linter.unusedSimpArgs false
namespace Go.Ab

section
variable {P : Program} {n : Nat} {o : Oper} {τ : Env} {h : AHeap} {K : AVal → AHeap → Prop}

/-- A new variable that is never written: a place in immutable cells. -/
theorem AOp.boxL {t : TypeId} {x : Operand} {cs : List AVal} (ho : o.op = .box t x) (hx : xcells (aev τ x) = some cs) (k : K (.lp cs 0) h) : AOp P n o τ h K := by
  intro a w r NK QQ hK
  obtain ⟨hs, hv⟩ := (r.eval x).xcells hx
  obtain ⟨hok, hev, hvr⟩ := push_ls r.heap (a.eval x).cells t cs hs.symm hv 0
  have hrun : (execOp a.eval o).run P w = .ok (.value (.pointer (some ⟨w.heap.size, 0, none⟩))) { w with heap := w.heap.push (.cells (a.eval x).cells t) } := by
    unfold execOp
    simp only [ho, Instr.box, Sem.run_bind, newVar, newRow, run_newObj, Result.andThen_ok, Sem.run_pure]
  unfold Oper.wp
  rw [hrun]
  refine hK _ _ _ _ ?_ hok hev k
  exact .lp w.heap.size 0 0 cs (a.eval x).cells t (0, 0) r.heap.fresh (by simp) (by omega) fun i h1 h2 => by simpa using (hv i h1 (by simpa using h2)).mono hev

theorem fresh_ne {h : AHeap} {b c : Nat} {k : ABlk} (e : hset h b (some k) c = none) : c ≠ b := by
  rintro rfl; rw [hset_same] at e; cases e
theorem fresh_peel {h : AHeap} {b c : Nat} {k : ABlk} (e : hset h b (some k) c = none) : h c = none := by
  rw [hset_ne _ _ (fresh_ne e)] at e; exact e
theorem fresh_of {h : AHeap} {b c : Nat} {k : ABlk} (e : h b = some k) (f : h c = none) : c ≠ b := by
  rintro rfl; rw [e] at f; cases f
theorem hset_skip {h : AHeap} {b c : Nat} {k : Option ABlk} {l : Option ABlk} (hne : b ≠ c) (e : h b = l) : hset h c k b = l := by rw [hset_ne _ _ hne]; exact e

/-- A block is read and never written any more: the slots that point there. -/
theorem Le.freezeVar {d b of s : Nat} {cs : List AVal} {t : TypeId} (hd : τ d = .v (.pointer (some ⟨b, of, none⟩))) (hb : h b = some (.cells cs t s)) : Le n τ h (upd τ d (.lp cs of)) (hset h b none) := fun a w r => by
  have hsub : HSub (hset h b none) h := HSub.drop b
  have r1 := (Le.sub hsub : Le n τ h τ (hset h b none)) a w r
  refine ⟨⟨r.defers, r.size, r1.1.heap, fun i => ?_⟩, r1.2⟩
  unfold upd
  split
  · rename_i e
    subst e
    have hv := r.tmps i
    rw [hd] at hv
    rw [hv.inv_v]
    obtain ⟨C, h1, h2, h3, h4⟩ := r.heap b _ hb
    have := VR.lp (w := w) (h := hset h b none) b 0 of cs C t (0, 0) (hset_same _ _ _) h1 (by omega) fun i a c => by simpa using (h4 i a (by simpa using c)).mono (hsub.ev w)
    simpa using this
  · exact r1.1.tmps i
/-- A variable that has just been made and filled. -/
theorem Le.freezeNew {d b of s : Nat} {cs : List AVal} {t : TypeId} {z : ABlk} (hb : h b = none) (hd : τ d = .v (.pointer (some ⟨b, of, none⟩))) : Le n τ (hset (hset h b (some z)) b (some (.cells cs t s))) (upd τ d (.lp cs of)) h := by
  have := Le.freezeVar (n := n) (τ := τ) (h := hset (hset h b (some z)) b (some (.cells cs t s))) hd (hset_same _ _ _)
  rw [hset_hset, hset_hset, hset_id hb] at this
  rw [hset_hset]
  exact this
/-- A slice of one's own, in a slot, is read and never written any more. -/
theorem Le.freezeOwn {h0 : AHeap} {d e sz m : Nat} {cs : List AVal} (q : Own h0 e sz m cs (τ d) h) : Le n τ h (upd τ d (.ls m cs)) h0 := fun a w r => by
  obtain ⟨hsub, hv⟩ := q.freeze
  have r1 := (Le.sub hsub : Le n τ h τ h0) a w r
  refine ⟨⟨r.defers, r.size, r1.1.heap, fun i => ?_⟩, r1.2⟩
  unfold upd
  split
  · rename_i e; subst e; exact hv w _ r.heap (r.tmps i)
  · exact r1.1.tmps i
/-- A made slice, in a slot, is read and never written any more. -/
theorem Le.freezeMade {d b m c s e : Nat} {cs : List AVal} (hd : τ d = .v (.slice (some ⟨b, 0, none⟩) m c)) (hm : m ≤ c) (hb : h b = some (.cells cs e s)) : Le n τ h (upd τ d (.ls m cs)) (hset h b none) := fun a w r => by
  have hsub : HSub (hset h b none) h := HSub.drop b
  have r1 := (Le.sub hsub : Le n τ h τ (hset h b none)) a w r
  refine ⟨⟨r.defers, r.size, r1.1.heap, fun i => ?_⟩, r1.2⟩
  unfold upd
  split
  · rename_i e'
    subst e'
    have hv := r.tmps i
    rw [hd] at hv
    rw [hv.inv_v]
    obtain ⟨C, h1, h2, h3, h4⟩ := r.heap b _ hb
    exact .ls b 0 m c cs C e (0, 0) (hset_same _ _ _) h1 hm (by omega) fun i a c => by simpa using (h4 i a (by simpa using c)).mono (hsub.ev w)
  · exact r1.1.tmps i

/-! ### Results -/
theorem ARes.le {fn : Func} {R : AVal → AHeap → Prop} {τ' : Env} {h' : AHeap} (l : Le fn.ntmps τ h τ' h') (x : ARes P fn R τ' h') : ARes P fn R τ h := fun a w r => by
  obtain ⟨r', e⟩ := l a w r
  obtain ⟨v, y, h2, q1, q2, q3, q4, q5⟩ := x a w r'
  exact ⟨v, y, h2, q1, q2, q3, e.trans q4, q5⟩
/-- One result. -/
def rvSem (tmps : Array Value) : ResultVar → Sem Value
  | .tmp t => pure (tmps.getD t undef)
  | .cell a t => do loadVar t (← asAddr (tmps.getD a undef))
/-- One result's value. -/
def RV (P : Program) (n : Nat) (τ : Env) (h : AHeap) (rv : ResultVar) (x : AVal) : Prop :=
  ∀ a w, Rel n τ h a w → ∃ v, (rvSem a.tmps rv).run P w = .ok v w ∧ VR w h x v
theorem RV.tmp {t : Nat} : RV P n τ h (.tmp t) (τ t) := fun a w r => ⟨_, rfl, r.tmps t⟩
theorem RV.tmp' {t : Nat} {x : AVal} (e : τ t = x) : RV P n τ h (.tmp t) x := e ▸ RV.tmp
theorem RV.V {t : Nat} {v : Value} (e : τ t = .v v) : RV P n τ h (.tmp t) (.v v) := e ▸ RV.tmp
theorem RV.L {t m : Nat} {cs : List AVal} (e : τ t = .ls m cs) : RV P n τ h (.tmp t) (.ls m cs) := e ▸ RV.tmp
theorem RV.cellN {ad t b of s sz : Nat} {cs ys zs : List AVal} {t' : TypeId} [T : Ty P t true s zs] (hx : τ ad = .v (.pointer (some ⟨b, of, none⟩))) (hb : h b = some (.cells cs t' sz)) (hy : rdc cs of s = some ys) : RV P n τ h (.cell ad t) (.agg ys) := fun a w r => by
  obtain ⟨arr, hv, _, hr, _⟩ := (r.heap.cells hb).many (P := P) hy
  have e : a.tmps.getD ad undef = .pointer (some ⟨b, of, none⟩) := by have := r.tmps ad; rw [hx] at this; exact this.inv_v
  refine ⟨.agg arr, ?_, hr⟩
  simp only [rvSem, e, asAddr, Sem.run_bind, Sem.run_pure, Result.andThen_ok]
  have := run_loadN (P := P) (ad := ⟨b, of, none⟩) (arr := arr) (w := w) T.agg T.size (by simpa using hv)
  simpa [Instr.loadAt, Instr.sureAddr] using this
theorem RV.cellNL {ad t of s : Nat} {cs ys zs : List AVal} [T : Ty P t true s zs] (hx : τ ad = .lp cs of) (hy : rdc cs of s = some ys) : RV P n τ h (.cell ad t) (.agg ys) := fun a w r => by
  have e := r.tmps ad
  rw [hx] at e
  obtain ⟨b, of', hv, hc⟩ := e.inv_lp
  obtain ⟨arr, hv2, _, hr, _⟩ := hc.many (P := P) hy
  refine ⟨.agg arr, ?_, hr⟩
  simp only [rvSem, hv, asAddr, Sem.run_bind, Sem.run_pure, Result.andThen_ok]
  have := run_loadN (P := P) (ad := ⟨b, of' + of, none⟩) (arr := arr) (w := w) T.agg T.size hv2
  simpa [Instr.loadAt, Instr.sureAddr] using this
theorem results_run {fn : Func} {a : Act} {w : World} : (results fn a.tmps).run P w =
    ((fn.results.toList.mapM (rvSem a.tmps)).run P w).andThen fun vs w' => Result.ok (match vs with | [v] => v | vs => .tuple vs.toArray) w' := by
  have h0 : results fn a.tmps = (do
      let vs ← fn.results.mapM (rvSem a.tmps)
      pure (if h : vs.size = 1 then vs[0] else .tuple vs)) := rfl
  rw [h0, Array.mapM_eq_mapM_toList]
  simp only [Sem.run_bind, Sem.run_map]
  generalize Sem.run P (List.mapM (rvSem a.tmps) fn.results.toList) w = r
  cases r with
  | halt hh w' => rfl
  | ok vs w' =>
    simp only [Result.andThen_ok, Sem.run_pure]
    congr 1
    match vs with
    | [] => rfl
    | [v] => rfl
    | _ :: _ :: _ => rfl
theorem ARes.one {fn : Func} {R : AVal → AHeap → Prop} {rv : ResultVar} {x : AVal} (hf : fn.results = #[rv]) (hx : RV P fn.ntmps τ h rv x) (q : R x h) : ARes P fn R τ h := fun a w r => by
  obtain ⟨v, hv, hr⟩ := hx a w r
  refine ⟨v, x, h, ?_, hr, r.heap, Ev.refl h w, q⟩
  rw [results_run, hf]
  simp only [List.mapM_cons, List.mapM_nil, Sem.run_bind, hv, Result.andThen_ok, Sem.run_pure]
theorem ARes.many {fn : Func} {R : AVal → AHeap → Prop} {rvs : List ResultVar} {xs : List AVal} (hf : fn.results.toList = rvs) (hl : rvs.length = xs.length) (h2 : xs.length ≠ 1) (hx : ∀ i (h1 : i < rvs.length) (h2 : i < xs.length), RV P fn.ntmps τ h rvs[i] xs[i]) (q : R (.tup xs) h) : ARes P fn R τ h := fun a w r => by
  have key : ∀ (rvs : List ResultVar) (xs : List AVal), rvs.length = xs.length → (∀ i (h1 : i < rvs.length) (h2 : i < xs.length), RV P fn.ntmps τ h rvs[i] xs[i]) →
      ∃ vs : List Value, (rvs.mapM (rvSem a.tmps)).run P w = .ok vs w ∧ vs.length = xs.length ∧ ∀ i (h1 : i < xs.length) (h2 : i < vs.length), VR w h xs[i] vs[i] := by
    intro rvs
    induction rvs with
    | nil => intro xs hl _; exact ⟨[], rfl, hl, fun i h1 h2 => by simp at h2⟩
    | cons rv rvs ih => intro xs hl hx; cases xs with
      | nil => simp at hl
      | cons x xs =>
        obtain ⟨v, hv, hr⟩ := hx 0 (by simp) (by simp) a w r
        obtain ⟨vs, hvs, hvl, hvr⟩ := ih xs (by simpa using hl) (fun i h1 h2 => hx (i + 1) (by simp; omega) (by simp; omega))
        refine ⟨v :: vs, ?_, by simp [hvl], fun i h1 h2 => ?_⟩
        · simp only [List.mapM_cons, Sem.run_bind]
          simp only [List.getElem_cons_zero] at hv
          rw [hv]
          simp only [Result.andThen_ok, Sem.run_bind, hvs, Sem.run_pure]
        · cases i with
          | zero => exact hr
          | succ i => exact hvr i (by simpa using h1) (by simpa using h2)
  obtain ⟨vs, hvs, hvl, hvr⟩ := key rvs xs hl hx
  refine ⟨.tuple vs.toArray, .tup xs, h, ?_, .tup _ _ (by simpa using hvl) (fun i h1 h2 => by simpa using hvr i h1 (by simpa using h2)), r.heap, Ev.refl h w, q⟩
  rw [results_run, hf, hvs]
  simp only [Result.andThen_ok]
  have hvl' : vs.length ≠ 1 := by omega
  cases vs with
  | nil => rfl
  | cons v vs => cases vs with
    | nil => simp at hvl'
    | cons _ _ => rfl
theorem ARes.two {fn : Func} {R : AVal → AHeap → Prop} {rv1 rv2 : ResultVar} {x1 x2 : AVal} (hf : fn.results = #[rv1, rv2]) (h1 : RV P fn.ntmps τ h rv1 x1) (h2 : RV P fn.ntmps τ h rv2 x2) (q : R (.tup [x1, x2]) h) : ARes P fn R τ h :=
  ARes.many (rvs := [rv1, rv2]) (xs := [x1, x2]) (by rw [hf]) rfl (by simp) (fun i a b => match i, a, b with | 0, _, _ => h1 | 1, _, _ => h2 | i + 2, a, _ => by simp at a; omega) q
theorem ARes.three {fn : Func} {R : AVal → AHeap → Prop} {rv1 rv2 rv3 : ResultVar} {x1 x2 x3 : AVal} (hf : fn.results = #[rv1, rv2, rv3]) (h1 : RV P fn.ntmps τ h rv1 x1) (h2 : RV P fn.ntmps τ h rv2 x2) (h3 : RV P fn.ntmps τ h rv3 x3) (q : R (.tup [x1, x2, x3]) h) : ARes P fn R τ h :=
  ARes.many (rvs := [rv1, rv2, rv3]) (xs := [x1, x2, x3]) (by rw [hf]) rfl (by simp) (fun i a b => match i, a, b with | 0, _, _ => h1 | 1, _, _ => h2 | 2, _, _ => h3 | i + 3, a, _ => by simp at a; omega) q
theorem ARes.four {fn : Func} {R : AVal → AHeap → Prop} {rv1 rv2 rv3 rv4 : ResultVar} {x1 x2 x3 x4 : AVal} (hf : fn.results = #[rv1, rv2, rv3, rv4]) (h1 : RV P fn.ntmps τ h rv1 x1) (h2 : RV P fn.ntmps τ h rv2 x2) (h3 : RV P fn.ntmps τ h rv3 x3) (h4 : RV P fn.ntmps τ h rv4 x4) (q : R (.tup [x1, x2, x3, x4]) h) : ARes P fn R τ h :=
  ARes.many (rvs := [rv1, rv2, rv3, rv4]) (xs := [x1, x2, x3, x4]) (by rw [hf]) rfl (by simp) (fun i a b => match i, a, b with | 0, _, _ => h1 | 1, _, _ => h2 | 2, _, _ => h3 | 3, _, _ => h4 | i + 4, a, _ => by simp at a; omega) q
theorem ARes.none {fn : Func} {R : AVal → AHeap → Prop} (hf : fn.results = #[]) (q : R (.tup []) h) : ARes P fn R τ h :=
  ARes.many (rvs := []) (xs := []) (by rw [hf]) rfl (by simp) (fun i a b => by simp at a) q

end
end Go.Ab

namespace Go.Ab
/-- What stands in some slots. -/
def Slots (τ : Env) : List (Nat × AVal) → Prop
  | [] => True
  | (d, x) :: r => τ d = x ∧ Slots τ r
def updL (t0 : Env) : List (Nat × AVal) → Env
  | [] => t0
  | (d, x) :: r => upd (updL t0 r) d x
theorem Slots.open_ : ∀ {l : List (Nat × AVal)} {τ : Env}, Slots τ l → ∃ t0, τ = updL t0 l := by
  intro l τ hs
  refine ⟨τ, ?_⟩
  induction l with
  | nil => rfl
  | cons p r ih =>
    obtain ⟨h1, h2⟩ := hs
    show τ = upd (updL τ r) p.1 p.2
    rw [← ih h2, upd_id h1]
end Go.Ab

/- The layer's rule for a region whose order is open: what only reads may be taken first. No statement is proved here. -/
set_option linter.unusedVariables false
set_option linter.unusedSimpArgs false
namespace Go.Ab

section
variable {P : Program} {n : Nat} {ops : Array Oper} {CC C : List Nat} {hs : AHeap} {Q : Env → AHeap → Prop}

/-- A value that does not ask for a guarded operation. -/
def notB (v : Value) (b : Bool) : Bool := match v with
  | .bool b' => b' != b
  | _ => true
theorem notB_ne {b b' : Bool} (h : b' ≠ b) : notB (.bool b') b = true := by simpa [notB] using h
/-- Is the operation asked for? (its guard) -/
inductive Wants (ops : Array Oper) (n : Nat) (o : Oper) (τ : Env) : Bool → Prop
  | free (hg : o.guard = none) : Wants ops n o τ true
  | yes (j t : Nat) (b : Bool) (hg : o.guard = some (j, b)) (hj : (ops[j]?).bind (·.dst) = some t) (ht : t < n) (hv : τ t = .v (.bool b)) : Wants ops n o τ true
  | no (j t : Nat) (b : Bool) (v : Value) (hg : o.guard = some (j, b)) (hj : (ops[j]?).bind (·.dst) = some t) (ht : t < n) (hv : τ t = .v v) (hb : notB v b = true) : Wants ops n o τ false
theorem yielded_of {τ : Env} {h : AHeap} {a : Act} {w : World} (r : Rel n τ h a w) {j t : Nat} {b : Bool} (hj : (ops[j]?).bind (·.dst) = some t) (ht : t < n) (hv : τ t = .v (.bool b)) : yielded ops a.tmps j = some b := by
  have he : a.tmps.getD t undef = .bool b := by have := r.tmps t; rw [hv] at this; exact this.inv_v
  have hsz := r.size
  unfold yielded
  rw [hj]
  have : a.tmps[t]? = some (.bool b) := by
    rw [Array.getElem?_eq_getElem (by omega)]
    rw [Array.getD_eq_getD_getElem?, Array.getElem?_eq_getElem (by omega)] at he
    simpa using he
  simp [this]
theorem Wants.wanted {o : Oper} {τ : Env} {b : Bool} (q : Wants ops n o τ b) {h : AHeap} {a : Act} {w : World} (r : Rel n τ h a w) : Region.wanted o (yielded ops a.tmps) = b := by
  cases q with
  | free hg => simp [Region.wanted, hg]
  | yes j t b hg hj ht hv => simp [Region.wanted, hg, yielded_of r hj ht hv]
  | no j t b v hg hj ht hv hb =>
    have he : a.tmps.getD t undef = v := by have := r.tmps t; rw [hv] at this; exact this.inv_v
    have hsz := r.size
    have htm : a.tmps[t]? = some v := by
      rw [Array.getElem?_eq_getElem (by omega)]
      rw [Array.getD_eq_getD_getElem?, Array.getElem?_eq_getElem (by omega)] at he
      simpa using he
    unfold Region.wanted
    rw [hg]
    simp only
    unfold yielded
    rw [hj]
    simp only [Option.bind_some, htm]
    cases v <;> simp_all [notB]

/-- Operation o comes up. -/
def opA (P : Program) (n : Nat) (ops : Array Oper) (o : Oper) (K : Env → AHeap → Prop) (τ : Env) (h : AHeap) : Prop :=
  dstOK n o.dst = true ∧ ((Wants ops n o τ true ∧ AOp P n o τ h fun x h' => K (updO τ o.dst x) h') ∨ (Wants ops n o τ false ∧ K (updO τ o.dst (.v undef)) h))
/-- Does it wait for all that are read first? -/
def late (ops : Array Oper) (C : List Nat) (j : Nat) : Bool := C.all fun c => c == j || ((ops[j]?).map fun o => o.after.any fun e => Region.binds .any e && e.on == c).getD false

/-- Whatever order is picked. -/
def AnyA (P : Program) (n : Nat) (ops : Array Oper) (C : List Nat) (hs : AHeap) (Q : Env → AHeap → Prop) : Nat → Array Bool → Env → AHeap → Prop
  | 0, listed, τ, h => Region.ready .any ops listed = [] ∧ Q τ h
  | f + 1, listed, τ, h => (Region.ready .any ops listed = [] → Q τ h) ∧ ∀ i ∈ Region.ready .any ops listed, ∀ o, ops[i]? = some o →
      opA P n ops o (fun τ' h' => (late ops C i = false → HSub hs h → HSub hs h') ∧ AnyA P n ops C hs Q f (listed.setIfInBounds i true) τ' h') τ h

theorem opA.mono {o : Oper} {K K' : Env → AHeap → Prop} {τ : Env} {h : AHeap} (hk : ∀ τ h, K τ h → K' τ h) (x : opA P n ops o K τ h) : opA P n ops o K' τ h :=
  ⟨x.1, x.2.imp (fun ⟨q, y⟩ => ⟨q, fun a w r NK QQ hK => y a w r NK QQ fun v w' x h' q1 q2 q3 q4 => hK v w' x h' q1 q2 q3 (hk _ _ q4)⟩) fun ⟨q, y⟩ => ⟨q, hk _ _ y⟩⟩

theorem wpAny_mono {Q Q' : Exit → Act → World → Prop} (hq : ∀ e a w, Q e a w → Q' e a w) (f : Nat) : ∀ (listed : Array Bool) (a : Act) (w : World), wpAny P .any ops Q f listed a w → wpAny P .any ops Q' f listed a w := by
  induction f with
  | zero => intro listed a w x; exact ⟨x.1, hq _ _ _ x.2⟩
  | succ f ih =>
    intro listed a w x
    refine ⟨fun e => hq _ _ _ (x.1 e), fun i hi => ?_⟩
    have y := wpOp_mono (fun a w => ih (listed.setIfInBounds i true) a w) (x.2 i hi)
    unfold wpOp at y ⊢
    split
    · rename_i ho; simp only [ho] at y; exact y
    · rename_i o ho
      simp only [ho] at y
      split
      · rename_i hw
        rw [if_pos hw] at y
        refine y.imp (fun y => ?_) fun ⟨y, z⟩ => ⟨y, ?_⟩
        · unfold Oper.wp at *
          generalize (execOp a.eval o).run P w = rr at *
          cases rr with
          | ok nx w' =>
            cases nx <;> simp only [Oper.upon] at y ⊢ <;> first
              | exact y
              | exact Calls.mono y (fun e w'' he => by
                  cases e with
                  | returned v => exact he
                  | panicked c => exact hq _ _ _ he
                  | outgrown => obtain ⟨a, w, q⟩ := he; exact ⟨a, w, hq _ _ _ q⟩)
          | halt hh w' => cases hh <;> first | exact y | exact hq _ _ _ y | exact y.elim
        · obtain ⟨a, w, q⟩ := z; exact ⟨a, w, hq _ _ _ q⟩
      · rename_i hw
        rw [if_neg hw] at y
        exact y

theorem AnyA.sound : ∀ (f : Nat) (listed : Array Bool) (τ : Env) (h : AHeap), AnyA P n ops C hs Q f listed τ h → ∀ a w, Rel n τ h a w → wpAny P .any ops (Lift n h w fun e τ h => e = .normal ∧ Q τ h) f listed a w
  | 0, listed, τ, h, x, a, w, r => ⟨x.1, τ, h, r, Ev.refl h w, rfl, x.2⟩
  | f + 1, listed, τ, h, x, a, w, r => by
    refine ⟨fun e => ⟨τ, h, r, Ev.refl h w, rfl, x.1 e⟩, fun i hi => ?_⟩
    unfold wpOp
    cases ho : ops[i]? with
    | none =>
      obtain ⟨_, oj, hoj, _⟩ := mem_ready.1 hi
      rw [ho] at hoj; cases hoj
    | some o =>
      obtain ⟨hd, hx⟩ := x.2 i hi o ho
      simp only
      have lift : ∀ {h' : AHeap} {w' : World} {a' : Act} {τ' : Env}, Ev h w h' w' → Rel n τ' h' a' w' → AnyA P n ops C hs Q f (listed.setIfInBounds i true) τ' h' → wpAny P .any ops (Lift n h w fun e τ h => e = .normal ∧ Q τ h) f (listed.setIfInBounds i true) a' w' := by
        intro h' w' a' τ' e r' y
        exact wpAny_mono (fun _ _ _ l => Lift.trans e l) _ _ _ _ (AnyA.sound f _ τ' h' y a' w' r')
      rcases hx with ⟨hw, y⟩ | ⟨hw, y⟩
      · rw [if_pos (hw.wanted r)]
        exact .inl (y a w r _ _ fun v w' x h' q1 q2 q3 q4 => lift q3 ((r.ev q3 q2).putO hd q1) q4.2)
      · rw [if_neg (by rw [hw.wanted r]; simp)]
        exact lift (Ev.refl h w) (r.putO hd (.v _)) y.2
/-- **A region that draws its order.** -/
theorem AC.draw {id : Nat} {Q : Exit → Env → AHeap → Prop} {τ : Env} {h : AHeap} (hm : P.follows .mixedOrders = true) (C : List Nat) (hs : AHeap) (x : AnyA P n ops C hs (Q .normal) ops.size (Array.replicate ops.size false) τ h) : AC P n (.region id ops true) Q τ h := fun a w r => by
  refine wp_region_any hm ?_
  have r' : Rel n τ h a { w with drawn := w.drawn + 1 } := r.ev ((Ev.refl h w).drawn _) (r.heap.drawn _)
  refine wpAny_mono (fun e a w' l => ?_) _ _ _ _ (AnyA.sound _ _ _ _ x a _ r')
  obtain ⟨τ', h', r2, f, e', q⟩ := l
  subst e'
  exact ⟨τ', h', r2, ((Ev.refl h w).drawn _).trans f, q⟩

theorem opA.mono' {o : Oper} {K K' : Env → AHeap → Prop} {τ : Env} {h : AHeap} (hk : ∀ y h, K (updO τ o.dst y) h → K' (updO τ o.dst y) h) (x : opA P n ops o K τ h) : opA P n ops o K' τ h :=
  ⟨x.1, x.2.imp (fun ⟨q, y⟩ => ⟨q, fun a w r NK QQ hK => y a w r NK QQ fun v w' x h' q1 q2 q3 q4 => hK v w' x h' q1 q2 q3 (hk _ _ q4)⟩) fun ⟨q, y⟩ => ⟨q, hk _ _ y⟩⟩

/-- All have come up. -/
theorem AnyA.done {f : Nat} {listed : Array Bool} {τ : Env} {h : AHeap} (hr : Region.ready .any ops listed = []) (q : Q τ h) : AnyA P n ops C hs Q f listed τ h := by
  cases f with
  | zero => exact ⟨hr, q⟩
  | succ f => exact ⟨fun _ => q, fun i hi => by rw [hr] at hi; cases hi⟩
/-- One alone may come up. -/
theorem AnyA.only {f : Nat} {listed : Array Bool} {τ : Env} {h : AHeap} (i : Nat) (hr : Region.ready .any ops listed = [i]) {o : Oper} (ho : ops[i]? = some o)
    (x : opA P n ops o (fun τ' h' => (late ops C i = false → HSub hs h → HSub hs h') ∧ AnyA P n ops C hs Q f (listed.setIfInBounds i true) τ' h') τ h) : AnyA P n ops C hs Q (f + 1) listed τ h :=
  ⟨fun e => (List.cons_ne_nil i [] (hr.symm.trans e)).elim, fun j hj o' ho' => by
    rw [hr] at hj
    have : j = i := by simpa using hj
    subst this
    rw [ho] at ho'; injection ho' with ho'; subst ho'
    exact x⟩
theorem AnyA.all {f : Nat} {listed : Array Bool} {τ : Env} {h : AHeap} (rs : List Nat) (hr : Region.ready .any ops listed = rs) (hne : rs ≠ [])
    (x : ∀ i ∈ rs, ∀ o, ops[i]? = some o → opA P n ops o (fun τ' h' => (late ops C i = false → HSub hs h → HSub hs h') ∧ AnyA P n ops C hs Q f (listed.setIfInBounds i true) τ' h') τ h) : AnyA P n ops C hs Q (f + 1) listed τ h :=
  ⟨fun e => absurd (hr.symm.trans e) hne, hr ▸ x⟩

theorem updO_comm {τ : Env} {d e : Option Nat} (x y : AVal) (hne : ∀ t, d = some t → e ≠ some t) : updO (updO τ d x) e y = updO (updO τ e y) d x := by
  cases d with
  | none => rfl
  | some d => cases e with
    | none => rfl
    | some e =>
      have : e ≠ d := fun q => hne d rfl (by rw [q])
      funext i
      simp only [updO, upd]
      by_cases h1 : i = e
      · subst h1; rw [if_pos rfl, if_neg this, if_pos rfl]
      · rw [if_neg h1, if_neg h1]

/-- Of some slots alone something is known. -/
def only (τ : Env) (L : List Nat) : Env := fun t => if L.contains t then τ t else .any
theorem Rel.only {n τ h a w} (r : Rel n τ h a w) (L : List Nat) : Rel n (only τ L) h a w := ⟨r.defers, r.size, r.heap, fun i => by
  unfold Ab.only; split
  · exact r.tmps i
  · exact .any _⟩
theorem only_congr {τ τ' : Env} {L : List Nat} (h : ∀ t, t ∈ L → τ' t = τ t) : only τ' L = only τ L := by
  funext t
  unfold only
  by_cases c : L.contains t = true
  · rw [if_pos c, if_pos c, h t (by simpa using c)]
  · rw [if_neg c, if_neg c]
/-- What reads alone (whatever else has come up, as long as G holds of one's own blocks): its value. -/
def Calm (P : Program) (n : Nat) (ops : Array Oper) (G : AHeap → Prop) (o : Oper) (τ : Env) (x : AVal) : Prop :=
  dstOK n o.dst = true ∧ ((Wants ops n o τ true ∧ ∀ h, G h → ARun P n o (only τ (o.looksAt ops)) h x) ∨ (Wants ops n o τ false ∧ x = .v undef))

theorem aev_updO {τ : Env} {d : Option Nat} {x : AVal} {y : Operand} (hne : ∀ t, d = some t → y ≠ .tmp t) : aev (updO τ d x) y = aev τ y := by
  cases d with
  | none => rfl
  | some d =>
    cases y with
    | tmp t =>
      have : t ≠ d := fun e => hne d rfl (by rw [e])
      simp [aev, updO, upd, this]
    | _ => rfl

theorem put_eq_of {a b : Act} {dst : Option Tmp} {u v : Value} (hs : a.tmps.size = b.tmps.size) (e : b.put dst u = b.put dst v) : a.put dst u = a.put dst v := by
  cases dst with
  | none => rfl
  | some t =>
    have e : b.tmps.setIfInBounds t u = b.tmps.setIfInBounds t v := congrArg Act.tmps e
    show ({ tmps := a.tmps.setIfInBounds t u, defers := a.defers } : Act) = { tmps := a.tmps.setIfInBounds t v, defers := a.defers }
    congr 1
    by_cases ht : t < b.tmps.size
    · have : u = v := by
        have h1 : (b.tmps.setIfInBounds t u)[t]? = (b.tmps.setIfInBounds t v)[t]? := by rw [e]
        simpa [Array.getElem?_setIfInBounds, ht] using h1
      rw [this]
    · have h1 : a.tmps.size ≤ t := by rw [hs]; exact Nat.le_of_not_lt ht
      rw [Array.setIfInBounds_eq_of_size_le h1, Array.setIfInBounds_eq_of_size_le h1]

/-- What is apart from a calm operation doesn't mind that one's value. -/
theorem opA.back {oi oj : Oper} {K : Env → AHeap → Prop} {τ : Env} {h : AHeap} {x : AVal} (hap : oi.apart ops oj = true) (hsi : ∀ cs b, oi.op ≠ .select cs b) (hsj : ∀ cs b, oj.op ≠ .select cs b)
    {G : AHeap → Prop} (hc : Calm P n ops G oi τ x) (hh : G h) (y : opA P n ops oj K (updO τ oi.dst x) h) : opA P n ops oj (fun τ' h' => K (updO τ' oi.dst x) h') τ h := by
  have hspec := Oper.apart_spec hap
  have hdd : ∀ t, oi.dst = some t → oj.dst ≠ some t := hspec.2.1
  have hlook : ∀ t, oi.dst = some t → t ∉ oj.looksAt ops := hspec.1
  have hwant : ∀ b, Wants ops n oj (updO τ oi.dst x) b → Wants ops n oj τ b := by
    have hτ : ∀ j t, (ops[j]?).bind (·.dst) = some t → (∃ b, oj.guard = some (j, b)) → updO τ oi.dst x t = τ t := by
      intro j t hj hg
      obtain ⟨b, hg⟩ := hg
      cases hdst : oi.dst with
      | none => rfl
      | some d =>
        have hne : t ≠ d := fun e => hlook d hdst (by
          unfold Oper.looksAt
          rw [hg]
          refine List.mem_append_right _ ?_
          simp [hj, e])
        simp [updO, upd, hne]
    intro b q
    cases q with
    | free hg => exact .free hg
    | yes j t b hg hj ht hv => exact .yes j t b hg hj ht (by rw [← hτ j t hj ⟨b, hg⟩]; exact hv)
    | no j t b v hg hj ht hv hb => exact .no j t b v hg hj ht (by rw [← hτ j t hj ⟨b, hg⟩]; exact hv) hb
  obtain ⟨hd, y⟩ := y
  refine ⟨hd, ?_⟩
  rcases y with ⟨hw, y⟩ | ⟨hw, y⟩
  · refine .inl ⟨hwant _ hw, fun a w r NK QQ hK => ?_⟩
    -- the calm one's plain value in this world
    obtain ⟨v, hv⟩ : ∃ v, VR w h x v := by
      rcases hc.2 with ⟨_, z⟩ | ⟨_, z⟩
      · obtain ⟨v, _, hv⟩ := z h hh a w (r.only _); exact ⟨v, hv⟩
      · exact ⟨undef, z ▸ .v _⟩
    have r2 : Rel n (updO τ oi.dst x) h (a.put oi.dst v) w := r.putO hc.1 hv
    have hsz : (a.put oi.dst v).tmps.size = a.tmps.size := by rw [r2.size, r.size]
    have z := y (a.put oi.dst v) w r2 (fun a1 w1 => ∃ u, a1 = (a.put oi.dst v).put oj.dst u ∧ NK (a.put oj.dst u) w1) (fun _ _ _ => False) fun u w' x' h' q1 q2 q3 q4 =>
      ⟨u, rfl, hK u w' x' h' q1 q2 q3 (by show K (updO (updO τ oj.dst x') oi.dst x) h'; rw [← updO_comm x x' hdd]; exact q4)⟩
    have hexec : execOp (a.put oi.dst v).eval oj = execOp a.eval oj := execOp_put oj hsj a oi.dst v hlook
    unfold Oper.wp at *
    rw [hexec] at z
    have fin : ∀ u w', (∃ u', (a.put oi.dst v).put oj.dst u = (a.put oi.dst v).put oj.dst u' ∧ NK (a.put oj.dst u') w') → NK (a.put oj.dst u) w' := by
      rintro u w' ⟨u', e, k⟩
      rw [put_eq_of hsz.symm e]; exact k
    generalize (execOp a.eval oj).run P w = rr at *
    cases rr with
    | halt hh' w' => cases hh' <;> first | exact z | exact z.elim
    | ok nx w' =>
      cases nx <;> simp only [Oper.upon] at z ⊢ <;> first
        | exact fin _ _ z
        | exact Calls.mono z (fun e w'' he => by
            cases e with
            | returned u => exact fin _ _ he
            | panicked c => exact he.elim
            | outgrown => obtain ⟨_, _, q⟩ := he; exact q.elim)
        | exact Rows.mono z (fun u w'' he => fin _ _ he)
        | exact z.elim
        | (obtain ⟨u, e, _⟩ := z
           have e := congrArg Act.defers e
           exfalso
           have hp : ∀ (b : Act) (dst : Option Tmp) (u : Value), (b.put dst u).defers = b.defers := fun b dst u => by cases dst <;> rfl
           simp only [hp] at e
           exact absurd e (List.cons_ne_self _ _))
  · exact .inr ⟨hwant _ hw, by show K (updO (updO τ oj.dst (.v undef)) oi.dst x) h; rw [← updO_comm x (.v undef) hdd]; exact y⟩
/-- **What reads alone may be taken first.** -/
theorem AnyA.first {i : Nat} {oi : Oper} {x : AVal} {G : AHeap → Prop} (hi : ops[i]? = some oi) (hG : (i ∈ C ∧ ∀ h, HSub hs h → G h) ∨ ∀ h, G h) (hsel : ∀ (j : Nat) (o : Oper) cs b, ops[j]? = some o → o.op ≠ .select cs b) :
    ∀ (f : Nat) (listed : Array Bool) (τ : Env) (h : AHeap),
      (∀ j oj, ops[j]? = some oj → j ≠ i → listed.getD j true = false → (∀ e ∈ oj.after, Region.binds .any e = true → e.on ≠ i) → oi.apart ops oj = true) →
      i ∈ Region.ready .any ops listed → Calm P n ops G oi τ x → (i ∈ C → HSub hs h) → AnyA P n ops C hs Q f (listed.setIfInBounds i true) (updO τ oi.dst x) h → AnyA P n ops C hs Q (f + 1) listed τ h := by
  have self : ∀ (f : Nat) (listed : Array Bool) (τ : Env) (h : AHeap), Calm P n ops G oi τ x → G h → AnyA P n ops C hs Q f (listed.setIfInBounds i true) (updO τ oi.dst x) h →
      opA P n ops oi (fun τ' h' => (late ops C i = false → HSub hs h → HSub hs h') ∧ AnyA P n ops C hs Q f (listed.setIfInBounds i true) τ' h') τ h := by
    intro f listed τ h hc hh H
    obtain ⟨hd, ⟨hw, z⟩ | ⟨hw, rfl⟩⟩ := hc
    · exact ⟨hd, .inl ⟨hw, AOp.of_run (fun a w r => z h hh a w (r.only _)) ⟨fun _ q => q, H⟩⟩⟩
    · exact ⟨hd, .inr ⟨hw, fun _ q => q, H⟩⟩
  have GG : ∀ h, (i ∈ C → HSub hs h) → G h := fun h q => hG.elim (fun ⟨a, b⟩ => b h (q a)) fun g => g h
  intro f
  induction f with
  | zero =>
    intro listed τ h _ hr hc hl H
    refine ⟨fun e => absurd hr (by rw [e]; simp), fun j hj o ho => ?_⟩
    by_cases hji : j = i
    · subst hji
      rw [hi] at ho; injection ho with ho; subst ho
      exact self 0 listed τ h hc (GG h hl) H
    · have := ready_mono hj hji
      rw [H.1] at this; cases this
  | succ f ih =>
    intro listed τ h hfree hr hc hl H
    refine ⟨fun e => absurd hr (by rw [e]; simp), fun j hj o ho => ?_⟩
    by_cases hji : j = i
    · subst hji
      rw [hi] at ho; injection ho with ho; subst ho
      exact self (f + 1) listed τ h hc (GG h hl) H
    · obtain ⟨hjun, oj, hoj, hall⟩ := mem_ready.1 hj
      rw [ho] at hoj; injection hoj with hoj; subst hoj
      have hiun : listed.getD i true = false := (mem_ready.1 hr).1
      have hnot : ∀ e ∈ o.after, Region.binds .any e = true → e.on ≠ i := fun e he hb heq => by
        have h1 := hall e he hb
        rw [heq] at h1
        rcases Nat.lt_or_ge i listed.size with h' | h'
        · simp [h'] at hiun h1; rw [hiun] at h1; cases h1
        · simp [Array.getElem?_eq_none h'] at h1
      have hlate : i ∈ C → late ops C j = false := by
        intro hC
        unfold late
        rw [List.all_eq_false]
        refine ⟨i, hC, ?_⟩
        rw [ho]
        simp only [Option.map_some, Option.getD_some, Bool.or_eq_true, beq_iff_eq, not_or]
        refine ⟨fun e => hji e.symm, fun q => ?_⟩
        obtain ⟨e, he, hb⟩ := Array.any_eq_true'.1 q
        simp only [Bool.and_eq_true, beq_iff_eq] at hb
        exact hnot e he hb.1 hb.2
      have hap := hfree j o ho hji hjun hnot
      have h2 := opA.back hap (fun cs b => hsel i oi cs b hi) (fun cs b => hsel j o cs b ho) hc (GG h hl) (H.2 j (ready_mono hj hji) o ho)
      have hfree' : ∀ k ok, ops[k]? = some ok → k ≠ i → (listed.setIfInBounds j true).getD k true = false →
          (∀ e ∈ ok.after, Region.binds .any e = true → e.on ≠ i) → oi.apart ops ok = true := fun k ok hk hki hun hno => by
        refine hfree k ok hk hki ?_ hno
        by_cases hjk : j = k
        · subst hjk; exact hjun
        · rw [getD_set_ne true hjk] at hun; exact hun
      -- the calm one is calm still, behind j
      have hcalm : ∀ y, Calm P n ops G oi (updO τ o.dst y) x := by
        intro y
        have hsp := Oper.apart_spec hap
        have hlk : ∀ t, o.dst = some t → t ∉ oi.looksAt ops := hsp.2.2
        have hdd : ∀ t, o.dst = some t → oi.dst ≠ some t := fun t e e' => hsp.2.1 t e' e
        have hτ : ∀ t, t ∈ oi.looksAt ops → updO τ o.dst y t = τ t := by
          intro t ht
          cases hdst : o.dst with
          | none => rfl
          | some d =>
            have : t ≠ d := fun e => hlk d hdst (e ▸ ht)
            simp [updO, upd, this]
        have hw : ∀ b, Wants ops n oi τ b → Wants ops n oi (updO τ o.dst y) b := by
          have hg' : ∀ jj tt bb, oi.guard = some (jj, bb) → (ops[jj]?).bind (·.dst) = some tt → tt ∈ oi.looksAt ops := by
            intro jj tt bb hg hj
            unfold Oper.looksAt
            rw [hg]
            refine List.mem_append_right _ ?_
            simp [hj]
          intro b q
          cases q with
          | free hg => exact .free hg
          | yes jj tt b hg hj ht hv => exact .yes jj tt b hg hj ht (by rw [hτ tt (hg' jj tt b hg hj)]; exact hv)
          | no jj tt b v hg hj ht hv hb => exact .no jj tt b v hg hj ht (by rw [hτ tt (hg' jj tt b hg hj)]; exact hv) hb
        obtain ⟨hd, ⟨hw', z⟩ | ⟨hw', rfl⟩⟩ := hc
        · refine ⟨hd, .inl ⟨hw _ hw', fun h' hh' => ?_⟩⟩
          rw [only_congr hτ]; exact z h' hh'
        · exact ⟨hd, .inr ⟨hw _ hw', rfl⟩⟩
      refine opA.mono' (fun y h' q => ?_) h2
      refine ⟨q.1, ih (listed.setIfInBounds j true) _ h' hfree' (ready_mono hr (Ne.symm hji)) (hcalm y) (fun hC => q.1 (hlate hC) (hl hC)) ?_⟩
      rw [Array.setIfInBounds_comm _ _ hji]
      exact q.2

/-- One order in which what is read comes first: it serves for all. CC: what is taken so; C: what of that reads one's own blocks. -/
def RunA (P : Program) (n : Nat) (ops : Array Oper) (CC C : List Nat) (hs : AHeap) (Q : Env → AHeap → Prop) : List Nat → Env → AHeap → Prop
  | [], τ, h => Q τ h
  | i :: σ, τ, h => ∃ o, ops[i]? = some o ∧ ((CC.contains i = true ∧ ∃ x G, Calm P n ops G o τ x ∧ ((C.contains i = true ∧ HSub hs h ∧ ∀ h, HSub hs h → G h) ∨ (C.contains i = false ∧ ∀ h, G h)) ∧ RunA P n ops CC C hs Q σ (updO τ o.dst x) h) ∨
      (CC.contains i = false ∧ opA P n ops o (fun τ' h' => (late ops C i = false → HSub hs h → HSub hs h') ∧ RunA P n ops CC C hs Q σ τ' h') τ h))
/-- The order is one, and what comes when it is not read comes alone. -/
def chkA (ops : Array Oper) (CC : List Nat) : List Nat → Array Bool → Bool
  | [], listed => (Region.ready .any ops listed).isEmpty
  | i :: σ, listed => (if CC.contains i then (Region.ready .any ops listed).contains i && Region.free .any ops listed i else Region.ready .any ops listed == [i]) && chkA ops CC σ (listed.setIfInBounds i true)
theorem RunA.any (hsel : Region.noSelect ops = true) : ∀ (σ : List Nat) (f : Nat) (listed : Array Bool) (τ : Env) (h : AHeap), σ.length ≤ f → chkA ops CC σ listed = true → RunA P n ops CC C hs Q σ τ h → AnyA P n ops C hs Q f listed τ h
  | [], f, listed, τ, h, _, hc, x => AnyA.done (by simpa [chkA] using hc) x
  | i :: σ, 0, listed, τ, h, hf, _, _ => by simp at hf
  | i :: σ, f + 1, listed, τ, h, hf, hc, x => by
    simp only [chkA, Bool.and_eq_true] at hc
    obtain ⟨hc1, hc2⟩ := hc
    have hf' : σ.length ≤ f := by simpa using hf
    obtain ⟨o, ho, ⟨hC, y, G, hcalm, hh, x⟩ | ⟨hC, x⟩⟩ := x
    · rw [if_pos hC] at hc1
      simp only [Bool.and_eq_true] at hc1
      exact AnyA.first ho (hh.elim (fun ⟨a, _, c⟩ => .inl ⟨by simpa using a, c⟩) fun ⟨_, c⟩ => .inr c) (Region.noSelect_spec hsel) f listed τ h (fun j oj hj hne hun hno => Region.free_spec ho hc1.2 j oj hj hne hun hno) (by simpa using hc1.1) hcalm (fun a => hh.elim (fun ⟨_, b, _⟩ => b) fun ⟨b, _⟩ => absurd (b.symm.trans (List.contains_iff_mem.2 a)) (by simp)) (RunA.any hsel σ f _ _ _ hf' hc2 x)
    · rw [if_neg (by rw [hC]; exact Bool.false_ne_true)] at hc1
      have hr : Region.ready .any ops listed = [i] := by simpa using hc1
      exact AnyA.only i hr ho (opA.mono (fun τ' h' q => ⟨q.1, RunA.any hsel σ f _ _ _ hf' hc2 q.2⟩) x)
/-- **A region that draws its order, walked once.** C: what reads alone; σ: the order of the walk; hs: what has to stand as long as something is still to be read. -/
theorem AC.drawn {id : Nat} {Q : Exit → Env → AHeap → Prop} {τ : Env} {h : AHeap} (CC C σ : List Nat) (hs : AHeap) (hm : P.follows .mixedOrders = true) (hchk : (Region.noSelect ops && (σ.length ≤ ops.size && chkA ops CC σ (Array.replicate ops.size false)) : Bool) = true) (x : RunA P n ops CC C hs (Q .normal) σ τ h) : AC P n (.region id ops true) Q τ h := by
  simp only [Bool.and_eq_true] at hchk
  exact AC.draw hm C hs (RunA.any hchk.1 σ _ _ _ _ (by simpa using hchk.2.1) hchk.2.2 x)

theorem AC.drawnH {id : Nat} {Q : Exit → Env → AHeap → Prop} {τ : Env} {h : AHeap} (CC C σ : List Nat) (hm : P.follows .mixedOrders = true) (hchk : (Region.noSelect ops && (σ.length ≤ ops.size && chkA ops CC σ (Array.replicate ops.size false)) : Bool) = true) (x : RunA P n ops CC C h (Q .normal) σ τ h) : AC P n (.region id ops true) Q τ h := AC.drawn CC C σ h hm hchk x
theorem HSub.add {h : AHeap} {b : Nat} (k : Option ABlk) (hb : h b = none) : HSub h (hset h b k) := fun i l e => by
  have : i ≠ b := by rintro rfl; rw [hb] at e; cases e
  rw [hset_ne _ _ this]; exact e
theorem lateAbs {C : List Nat} {j : Nat} {p : Prop} (h : late ops C j = true) : late ops C j = false → p := fun e => absurd (h.symm.trans e) (by simp)
theorem RunA.nil {τ : Env} {h : AHeap} (q : Q τ h) : RunA P n ops CC C hs Q [] τ h := q
section steps
variable {i : Nat} {σ : List Nat} {o : Oper} {τ : Env} {h : AHeap} {x : AVal}
/-- What is read. -/
theorem RunA.calm (ho : ops[i]? = some o) (hCC : CC.contains i = true) (hC : C.contains i = true) (hd : dstOK n o.dst = true) (hg : o.guard = none) (hh : HSub hs h) (hr : ∀ h, HSub hs h → ARun P n o (only τ (o.looksAt ops)) h x) (k : RunA P n ops CC C hs Q σ (updO τ o.dst x) h) : RunA P n ops CC C hs Q (i :: σ) τ h :=
  ⟨o, ho, .inl ⟨hCC, x, HSub hs, ⟨hd, .inl ⟨.free hg, hr⟩⟩, .inl ⟨hC, hh, fun _ q => q⟩, k⟩⟩
theorem RunA.calmG {j t : Nat} {b : Bool} (ho : ops[i]? = some o) (hCC : CC.contains i = true) (hC : C.contains i = true) (hd : dstOK n o.dst = true) (hg : o.guard = some (j, b)) (hj : (ops[j]?).bind (·.dst) = some t) (ht : t < n) (hv : τ t = .v (.bool b)) (hh : HSub hs h) (hr : ∀ h, HSub hs h → ARun P n o (only τ (o.looksAt ops)) h x) (k : RunA P n ops CC C hs Q σ (updO τ o.dst x) h) : RunA P n ops CC C hs Q (i :: σ) τ h :=
  ⟨o, ho, .inl ⟨hCC, x, HSub hs, ⟨hd, .inl ⟨.yes j t b hg hj ht hv, hr⟩⟩, .inl ⟨hC, hh, fun _ q => q⟩, k⟩⟩
/-- What is reckoned, without one's own blocks. -/
theorem RunA.pure (ho : ops[i]? = some o) (hCC : CC.contains i = true) (hC : C.contains i = false) (hd : dstOK n o.dst = true) (hg : o.guard = none) (hr : ∀ h, ARun P n o (only τ (o.looksAt ops)) h x) (k : RunA P n ops CC C hs Q σ (updO τ o.dst x) h) : RunA P n ops CC C hs Q (i :: σ) τ h :=
  ⟨o, ho, .inl ⟨hCC, x, fun _ => True, ⟨hd, .inl ⟨.free hg, fun h _ => hr h⟩⟩, .inr ⟨hC, fun _ => trivial⟩, k⟩⟩
theorem RunA.pureG {j t : Nat} {b : Bool} (ho : ops[i]? = some o) (hCC : CC.contains i = true) (hC : C.contains i = false) (hd : dstOK n o.dst = true) (hg : o.guard = some (j, b)) (hj : (ops[j]?).bind (·.dst) = some t) (ht : t < n) (hv : τ t = .v (.bool b)) (hr : ∀ h, ARun P n o (only τ (o.looksAt ops)) h x) (k : RunA P n ops CC C hs Q σ (updO τ o.dst x) h) : RunA P n ops CC C hs Q (i :: σ) τ h :=
  ⟨o, ho, .inl ⟨hCC, x, fun _ => True, ⟨hd, .inl ⟨.yes j t b hg hj ht hv, fun h _ => hr h⟩⟩, .inr ⟨hC, fun _ => trivial⟩, k⟩⟩
theorem RunA.passU {j t : Nat} {b : Bool} {v : Value} (ho : ops[i]? = some o) (hd : dstOK n o.dst = true) (hg : o.guard = some (j, b)) (hj : (ops[j]?).bind (·.dst) = some t) (ht : t < n) (hv : τ t = .v v) (hb : notB v b = true) (hh : CC.contains i = true → C.contains i = true → HSub hs h) (k : RunA P n ops CC C hs Q σ (updO τ o.dst (.v undef)) h) : RunA P n ops CC C hs Q (i :: σ) τ h := by
  refine ⟨o, ho, ?_⟩
  cases hCC : CC.contains i with
  | true =>
    cases hC : C.contains i with
    | true => exact .inl ⟨rfl, (.v undef), HSub hs, ⟨hd, .inr ⟨.no j t b v hg hj ht hv hb, rfl⟩⟩, .inl ⟨rfl, hh hCC hC, fun _ q => q⟩, k⟩
    | false => exact .inl ⟨rfl, (.v undef), fun _ => True, ⟨hd, .inr ⟨.no j t b v hg hj ht hv hb, rfl⟩⟩, .inr ⟨rfl, fun _ => trivial⟩, k⟩
  | false => exact .inr ⟨rfl, hd, .inr ⟨.no j t b v hg hj ht hv hb, fun _ q => q, k⟩⟩
theorem RunA.pass {j t : Nat} {b b' : Bool} (ho : ops[i]? = some o) (hd : dstOK n o.dst = true) (hg : o.guard = some (j, b)) (hj : (ops[j]?).bind (·.dst) = some t) (ht : t < n) (hv : τ t = .v (.bool b')) (hb : b' ≠ b) (hh : CC.contains i = true → C.contains i = true → HSub hs h) (k : RunA P n ops CC C hs Q σ (updO τ o.dst (.v undef)) h) : RunA P n ops CC C hs Q (i :: σ) τ h :=
  RunA.passU ho hd hg hj ht hv (notB_ne hb) hh k
/-- Another operation. -/
theorem RunA.op (ho : ops[i]? = some o) (hC : CC.contains i = false) (hd : dstOK n o.dst = true) (hg : o.guard = none) (k : AOp P n o τ h fun x h' => (late ops C i = false → HSub hs h → HSub hs h') ∧ RunA P n ops CC C hs Q σ (updO τ o.dst x) h') : RunA P n ops CC C hs Q (i :: σ) τ h :=
  ⟨o, ho, .inr ⟨hC, hd, .inl ⟨.free hg, k⟩⟩⟩
theorem RunA.opG {j t : Nat} {b : Bool} (ho : ops[i]? = some o) (hC : CC.contains i = false) (hd : dstOK n o.dst = true) (hg : o.guard = some (j, b)) (hj : (ops[j]?).bind (·.dst) = some t) (ht : t < n) (hv : τ t = .v (.bool b)) (k : AOp P n o τ h fun x h' => (late ops C i = false → HSub hs h → HSub hs h') ∧ RunA P n ops CC C hs Q σ (updO τ o.dst x) h') : RunA P n ops CC C hs Q (i :: σ) τ h :=
  ⟨o, ho, .inr ⟨hC, hd, .inl ⟨.yes j t b hg hj ht hv, k⟩⟩⟩
theorem RunA.le {τ' : Env} {h' : AHeap} (q : Q τ h → Q τ' h') (x : RunA P n ops CC C hs Q [] τ h) : RunA P n ops CC C hs Q [] τ' h' := q x
end steps
end

/-! ### What is handed on, told by its head (so that it stands reduced) -/
section
variable {P : Program} {n : Nat} {o : Oper} {τ : Env} {h : AHeap}
theorem ARun.mvV {x : Operand} {v : Value} (ho : o.op = .move x ∨ o.op = .assign x) (e : aev τ x = .v v) : ARun P n o τ h (.v v) := fun a w r => by
  rcases ho with ho | ho <;> exact ⟨a.eval x, by unfold execOp; rw [ho]; rfl, e ▸ r.eval x⟩
theorem ARun.mvL {x : Operand} {m : Nat} {cs : List AVal} (ho : o.op = .move x ∨ o.op = .assign x) (e : aev τ x = .ls m cs) : ARun P n o τ h (.ls m cs) := fun a w r => by
  rcases ho with ho | ho <;> exact ⟨a.eval x, by unfold execOp; rw [ho]; rfl, e ▸ r.eval x⟩
theorem ARun.mvP {x : Operand} {m : Nat} {cs : List AVal} (ho : o.op = .move x ∨ o.op = .assign x) (e : aev τ x = .lp cs m) : ARun P n o τ h (.lp cs m) := fun a w r => by
  rcases ho with ho | ho <;> exact ⟨a.eval x, by unfold execOp; rw [ho]; rfl, e ▸ r.eval x⟩
theorem ARun.mvA {x : Operand} {cs : List AVal} (ho : o.op = .move x ∨ o.op = .assign x) (e : aev τ x = .agg cs) : ARun P n o τ h (.agg cs) := fun a w r => by
  rcases ho with ho | ho <;> exact ⟨a.eval x, by unfold execOp; rw [ho]; rfl, e ▸ r.eval x⟩
theorem ARun.mvT {x : Operand} {cs : List AVal} (ho : o.op = .move x ∨ o.op = .assign x) (e : aev τ x = .tup cs) : ARun P n o τ h (.tup cs) := fun a w r => by
  rcases ho with ho | ho <;> exact ⟨a.eval x, by unfold execOp; rw [ho]; rfl, e ▸ r.eval x⟩
end
end Go.Ab

/- The layer's rules (5): maps with whole numbers as keys; several slices of one's own. No statement is proved here. -/
set_option linter.unusedVariables false
set_option linter.unusedSimpArgs false
namespace Go.Ab

/-- A map type with whole numbers as keys; the value that a miss gives. -/
class Mp (P : Program) (t : TypeId) (kk : outParam IntKind) (z : outParam AVal) : Prop where
  ok : ∃ key elem zv, P.underlying t = some (.map key elem) ∧ P.underlying key = some (.int kk) ∧ ((P.info? elem).bind (·.zero)) = some zv ∧ (z = .v zv ∨ ∃ arr, zv = .agg arr ∧ z = .agg (arr.toList.map .v))

/-- The entry of a key. -/
def mget (a : Int) : List (Int × AVal) → Option AVal
  | [] => none
  | (b, x) :: r => if a = b then some x else mget a r
def mput (a : Int) (y : AVal) : List (Int × AVal) → List (Int × AVal)
  | [] => [(a, y)]
  | (b, x) :: r => if a = b then (b, y) :: r else (b, x) :: mput a y r
theorem mget_mput (a b : Int) (y : AVal) : ∀ l, mget b (mput a y l) = if b = a then some y else mget b l
  | [] => by simp [mput, mget]
  | (c, x) :: r => by
    unfold mput
    by_cases h : a = c
    · subst h
      by_cases h2 : b = a
      · subst h2; simp [mget]
      · simp [mget, h2]
    · rw [if_neg h]
      unfold mget
      by_cases h2 : b = c
      · subst h2
        rw [if_pos rfl, if_neg (fun e => h e.symm), if_pos rfl]
      · rw [if_neg h2, if_neg h2, mget_mput a b y r]

theorem findNow_int (kk k2 : IntKind) (a : Int) : ∀ (E : List MapEntry) (es : List (Int × AVal)) (i : Nat), E.length = es.length → (∀ j (h1 : j < es.length) (h2 : j < E.length), E[j].key = .int kk es[j].1) →
    (mget a es = none ∧ Instr.findNow (.int k2) (.int kk a) E i = some none) ∨ ∃ j, ∃ (h1 : j < es.length) (h2 : j < E.length), es[j].1 = a ∧ mget a es = some es[j].2 ∧ (∀ m (hm : m < es.length), m < j → es[m].1 ≠ a) ∧ Instr.findNow (.int k2) (.int kk a) E i = some (some (i + j, E[j].val))
  | [], [], i, _, _ => .inl ⟨rfl, rfl⟩
  | [], _ :: _, i, h, _ => by simp at h
  | _ :: _, [], i, h, _ => by simp at h
  | e :: E, (b, x) :: es, i, hl, hk => by
    have h0 : e.key = .int kk b := hk 0 (by simp) (by simp)
    unfold Instr.findNow mget
    simp only [h0, Instr.sameNow, if_true]
    by_cases hab : a = b
    · subst hab
      refine .inr ⟨0, by simp, by simp, rfl, by simp, fun m _ hm => absurd hm (Nat.not_lt_zero _), ?_⟩
      simp
    · have hne : (a == b) = false := by simpa using hab
      rw [if_neg hab, hne]
      simp only
      rcases findNow_int kk k2 a E es (i + 1) (by simpa using hl) (fun j h1 h2 => hk (j + 1) (by simp; omega) (by simp; omega)) with ⟨h1, h2⟩ | ⟨j, h1, h2, h3, h4, h5, h6⟩
      · exact .inl ⟨h1, h2⟩
      · refine .inr ⟨j + 1, by simp; omega, by simp; omega, h3, h4, fun m hm hmj => ?_, by rw [h6]; simp; omega⟩
        cases m with
        | zero => exact fun e => hab e.symm
        | succ m => exact h5 m (by simpa using hm) (by omega)

section
variable {P : Program} {n : Nat} {o : Oper} {τ : Env} {h : AHeap} {K : AVal → AHeap → Prop}

theorem run_getMap {w : World} {b : Nat} {E : Array MapEntry} {c : Nat} (hw : w.heap[b]? = some (.map E c)) : (getObj b).run P w = .ok (.map E c) w := by
  simp [getObj, Sem.run, hw]
theorem run_checkKey_succ {w : World} {key : TypeId} {k2 kk : IntKind} {a : Int} (hk : P.underlying key = some (.int k2)) (em : Bool) (m : Nat) : (Instr.checkKey em (m + 1) key (.int kk a)).run P w = .ok () w := by
  simp only [Instr.checkKey, Sem.run_bind, run_underlying hk, Result.andThen_ok, Sem.run_pure]
theorem run_checkKey {w : World} {key : TypeId} {k2 kk : IntKind} {a : Int} (hk : P.underlying key = some (.int k2)) (em : Bool) : (Instr.checkKey em 10000 key (.int kk a)).run P w = .ok () w := run_checkKey_succ hk em 9999
theorem run_findKey {w : World} {key : TypeId} {k2 : IntKind} {kv : Value} {l : List MapEntry} {r : Option (Nat × Value)} (hk : P.underlying key = some (.int k2)) (hf : Instr.findNow (.int k2) kv l 0 = some r) : (Instr.findKey key kv l).run P w = .ok r w := by
  simp [Instr.findKey, run_underlying hk, hf]

/-- make(map) -/
theorem AOp.makeMap {t : TypeId} {kk : IntKind} (ho : o.op = .makeMap t none) (k : ∀ b, h b = none → K (.v (.map (some b))) (hset h b (some (.map kk [])))) : AOp P n o τ h K := by
  intro a w r NK QQ hK
  have hrun : (execOp a.eval o).run P w = .ok (.value (.map (some w.heap.size))) { w with heap := w.heap.push (.map #[] 0) } := by
    unfold execOp
    simp only [ho, Instr.makeMap, Option.map_none, Sem.run_bind, Sem.run_pure, Result.andThen_ok, run_newObj]
  unfold Oper.wp
  rw [hrun]
  refine hK _ _ _ _ (.v _) (r.heap.push _ _ fun k' e => ?_) (Ev.push h w _ _) (k _ r.heap.fresh)
  injection e with e
  subst e
  exact ⟨#[], 0, by simp, rfl, fun i h1 => by simp at h1⟩
theorem AOp.makeMapN {t : TypeId} {x : Operand} {kk k2 : IntKind} {m : Int} {z : AVal} [M : Mp P t kk z] (ho : o.op = .makeMap t (some x)) (hx : aev τ x = .v (.int k2 m)) (k : ∀ b, h b = none → K (.v (.map (some b))) (hset h b (some (.map kk [])))) : AOp P n o τ h K := by
  intro a w r NK QQ hK
  obtain ⟨key, elem, zv, hu, _⟩ := M.ok
  have hrun : (execOp a.eval o).run P w = .ok (.value (.map (some w.heap.size))) { w with heap := w.heap.push (.map #[] 0) } := by
    unfold execOp
    simp only [ho, Instr.makeMap, Option.map_some, Sem.run_bind, run_underlying hu, r.eval_v hx, asInt, asIntOf, Sem.run_pure, Result.andThen_ok, run_newObj]
  unfold Oper.wp
  rw [hrun]
  refine hK _ _ _ _ (.v _) (r.heap.push _ _ fun k' e => ?_) (Ev.push h w _ _) (k _ r.heap.fresh)
  injection e with e
  subst e
  exact ⟨#[], 0, by simp, rfl, fun i h1 => by simp at h1⟩

theorem run_zero_of {w : World} {elem : TypeId} {zv : Value} (hz : ((P.info? elem).bind (·.zero)) = some zv) : (zeroValue elem).run P w = .ok zv w := by
  obtain ⟨i, hi, hz⟩ := Option.bind_eq_some_iff.1 hz
  simp [zeroValue, typeInfo, hi, hz]
theorem zero_VR {w : World} {h : AHeap} {zv : Value} {z : AVal} (e : z = .v zv ∨ ∃ arr : Array Value, zv = .agg arr ∧ z = .agg (arr.toList.map .v)) : VR w h z zv := by
  rcases e with rfl | ⟨arr, rfl, rfl⟩
  · exact .v _
  · exact .agg _ _ (by simp) fun i h1 h2 => by simp; exact .v _

/-- m[k]: what a look-up gives. -/
theorem ARun.lookup {t : TypeId} {x i : Operand} {kk : IntKind} {z y : AVal} {b : Nat} {a : Int} {es : List (Int × AVal)} [M : Mp P t kk z] (ho : o.op = .lookup t x i false) (hx : aev τ x = .v (.map (some b))) (hi : aev τ i = .v (.int kk a)) (hb : h b = some (.map kk es)) (hy : (mget a es).getD z = y) : ARun P n o τ h y := fun ac w r => by
  obtain ⟨key, elem, zv, hu, hk, hz, hzz⟩ := M.ok
  obtain ⟨E, c, hw, hsz, hE⟩ := r.heap b _ hb
  have fin : ∀ q : Option (Nat × Value), Instr.findNow (.int kk) (.int kk a) E.toList 0 = some q → ∀ v, (match q with | some (_, v) => v | none => zv) = v → (execOp ac.eval o).run P w = .ok (.value v) w := by
    intro q hq v hv
    unfold execOp
    simp only [ho, r.eval_v hx, r.eval_v hi, Instr.lookup, Sem.run_bind, run_underlying hu, Result.andThen_ok, run_getMap hw, Sem.run_pure, run_checkKey hk, run_findKey hk hq]
    cases q with
    | none => simp only [Sem.run_bind, run_zero_of hz, Result.andThen_ok, Sem.run_pure, Bool.false_eq_true, if_false]; rw [← hv]
    | some q => obtain ⟨j, u⟩ := q; simp only [Sem.run_bind, Sem.run_pure, Result.andThen_ok, Bool.false_eq_true, if_false]; rw [← hv]
  rcases findNow_int kk kk a E.toList es 0 (by simpa using hsz) (fun j h1 h2 => by simpa using (hE j h1 (by simpa using h2)).1) with ⟨h1, h2⟩ | ⟨j, h1, h2, h3, h4, _, h6⟩
  · refine ⟨zv, fin none h2 zv rfl, ?_⟩
    rw [← hy, h1]; exact zero_VR hzz
  · refine ⟨E[j]'(by simpa using h2) |>.val, fin _ h6 _ (by simp), ?_⟩
    rw [← hy, h4]; exact (hE j h1 (by simpa using h2)).2
/-- v, ok := m[k] -/
theorem ARun.lookup2 {t : TypeId} {x i : Operand} {kk : IntKind} {z y : AVal} {b : Nat} {a : Int} {es : List (Int × AVal)} [M : Mp P t kk z] (ho : o.op = .lookup t x i true) (hx : aev τ x = .v (.map (some b))) (hi : aev τ i = .v (.int kk a)) (hb : h b = some (.map kk es)) (hy : (mget a es).getD z = y) : ARun P n o τ h (.tup [y, .v (.bool (mget a es).isSome)]) := fun ac w r => by
  obtain ⟨key, elem, zv, hu, hk, hz, hzz⟩ := M.ok
  obtain ⟨E, c, hw, hsz, hE⟩ := r.heap b _ hb
  have fin : ∀ q : Option (Nat × Value), Instr.findNow (.int kk) (.int kk a) E.toList 0 = some q → ∀ v, (match q with | some (_, v) => v | none => zv) = v → (execOp ac.eval o).run P w = .ok (.value (.tuple #[v, .bool q.isSome])) w := by
    intro q hq v hv
    unfold execOp
    simp only [ho, r.eval_v hx, r.eval_v hi, Instr.lookup, Sem.run_bind, run_underlying hu, Result.andThen_ok, run_getMap hw, Sem.run_pure, run_checkKey hk, run_findKey hk hq]
    cases q with
    | none => simp only [Sem.run_bind, run_zero_of hz, Result.andThen_ok, Sem.run_pure, if_true, Option.isSome_none]; rw [← hv]
    | some q => obtain ⟨j, u⟩ := q; simp only [Sem.run_bind, Sem.run_pure, Result.andThen_ok, if_true, Option.isSome_some]; rw [← hv]
  have two : ∀ (v : Value) (q : Bool), VR w h y v → VR w h (.tup [y, .v (.bool q)]) (.tuple #[v, .bool q]) := fun v q hv => .tup _ _ rfl fun i h1 h2 => by
    match i with
    | 0 => exact hv
    | 1 => exact .v _
    | i + 2 => simp at h1; omega
  rcases findNow_int kk kk a E.toList es 0 (by simpa using hsz) (fun j h1 h2 => by simpa using (hE j h1 (by simpa using h2)).1) with ⟨h1, h2⟩ | ⟨j, h1, h2, h3, h4, _, h6⟩
  · refine ⟨_, fin none h2 zv rfl, ?_⟩
    rw [h1]; exact two _ _ (by rw [← hy, h1]; exact zero_VR hzz)
  · refine ⟨_, fin _ h6 (E[j]'(by simpa using h2)).val (by simp), ?_⟩
    rw [h4]; exact two _ _ (by rw [← hy, h4]; exact (hE j h1 (by simpa using h2)).2)
theorem mput_none {a : Int} {y : AVal} : ∀ {es : List (Int × AVal)}, mget a es = none → mput a y es = es ++ [(a, y)]
  | [], _ => rfl
  | (b, x) :: r, h => by
    unfold mget at h
    unfold mput
    by_cases e : a = b
    · rw [if_pos e] at h; cases h
    · rw [if_neg e] at h ⊢; rw [mput_none h]; rfl
theorem mput_at {a : Int} {y : AVal} : ∀ {es : List (Int × AVal)} {j : Nat} (h1 : j < es.length), es[j].1 = a → (∀ m (hm : m < es.length), m < j → es[m].1 ≠ a) → mput a y es = es.set j (a, y)
  | [], j, h1, _, _ => by simp at h1
  | (b, x) :: r, 0, _, h, _ => by
    have : a = b := h.symm
    unfold mput; rw [if_pos this, this]; rfl
  | (b, x) :: r, j + 1, h1, h, hm => by
    have : ¬ a = b := fun e => hm 0 (by simp) (by omega) e.symm
    have ih := mput_at (es := r) (j := j) (y := y) (by simpa using h1) h fun m hm' hj => hm (m + 1) (by simpa using hm') (by omega)
    unfold mput; rw [if_neg this, List.set_cons_succ, ih]
/-- m[k] = v -/
theorem AOp.mapUpdate {t : TypeId} {x i y : Operand} {kk : IntKind} {z : AVal} {b : Nat} {a : Int} {es : List (Int × AVal)} [M : Mp P t kk z] (ho : o.op = .mapUpdate t x i y ∨ o.op = .insert t x i y) (hx : aev τ x = .v (.map (some b))) (hi : aev τ i = .v (.int kk a)) (hb : h b = some (.map kk es))
    (k : K (.v undef) (hset h b (some (.map kk (mput a (aev τ y) es))))) : AOp P n o τ h K := by
  intro ac w r NK QQ hK
  obtain ⟨key, elem, zv, hu, hk, hz, hzz⟩ := M.ok
  obtain ⟨E, c, hw, hsz, hE⟩ := r.heap b _ hb
  have hlt := lt_of_get hw
  have hyv := r.eval y
  have hset_run : ∀ ob, (setObj b ob).run P w = .ok () { w with heap := w.heap.setIfInBounds b ob } := fun ob => by simp [setObj, Sem.run, hw]
  have hexec : ∀ w', (Instr.mapUpdate t (.map (some b)) (.int kk a) (ac.eval y)).run P w = .ok () w' → (execOp ac.eval o).run P w = .ok .skip w' := by
    intro w' hr
    unfold execOp
    rcases ho with ho | ho <;> simp only [ho, r.eval_v hx, r.eval_v hi, Sem.run_bind, hr, Result.andThen_ok, Sem.run_pure]
  rcases findNow_int kk kk a E.toList es 0 (by simpa using hsz) (fun j h1 h2 => by simpa using (hE j h1 (by simpa using h2)).1) with ⟨h1, h2⟩ | ⟨j, h1, h2, h3, h4, h5, h6⟩
  · have hrun : (Instr.mapUpdate t (.map (some b)) (.int kk a) (ac.eval y)).run P w = .ok () { w with heap := w.heap.setIfInBounds b (.map (E.push { key := .int kk a, val := ac.eval y, born := c }) (c + 1)) } := by
      unfold Instr.mapUpdate
      simp only [Sem.run_bind, run_underlying hu, Result.andThen_ok, run_getMap hw, run_checkKey hk, run_findKey hk h2, hset_run]
    unfold Oper.wp
    rw [hexec _ hrun]
    have hev : Ev h w (hset h b (some (.map kk (mput a (aev τ y) es)))) { w with heap := w.heap.setIfInBounds b (.map (E.push { key := .int kk a, val := ac.eval y, born := c }) (c + 1)) } := Ev.write hb _ _
    refine hK undef _ _ _ (.v _) (r.heap.write hb _ _ fun l hl => ?_) hev k
    injection hl with hl
    subst hl
    rw [mput_none h1] at hev ⊢
    refine ⟨E.push { key := .int kk a, val := ac.eval y, born := c }, c + 1, by simp [Array.getElem?_setIfInBounds, hlt], by simp [hsz], fun i h1 h2 => ?_⟩
    by_cases hi' : i < es.length
    · have e1 : (es ++ [(a, aev τ y)])[i] = es[i] := List.getElem_append_left hi'
      have e2 : (E.push { key := .int kk a, val := ac.eval y, born := c })[i] = E[i]'(by omega) := Array.getElem_push_lt (by omega)
      rw [e1, e2]
      exact ⟨(hE i hi' (by omega)).1, (hE i hi' (by omega)).2.mono hev⟩
    · have hi2 : i = es.length := by simp at h1; omega
      subst hi2
      have e1 : (es ++ [(a, aev τ y)])[es.length] = (a, aev τ y) := by simp
      have e2 : (E.push { key := .int kk a, val := ac.eval y, born := c })[es.length] = { key := .int kk a, val := ac.eval y, born := c } := by simp [← hsz]
      rw [e1, e2]
      exact ⟨rfl, hyv.mono hev⟩
  · have hkey : E[j]? = some (E[j]'(by simpa using h2)) := Array.getElem?_eq_getElem _
    have hsb : ∀ m, Instr.sameBits m (.int kk a) (.int kk a) = true := fun m => by cases m <;> simp [Instr.sameBits]
    have hold : (E[j]'(by simpa using h2)).key = .int kk a := by rw [(hE j h1 (by simpa using h2)).1, h3]
    have hrun : (Instr.mapUpdate t (.map (some b)) (.int kk a) (ac.eval y)).run P w = .ok () { w with heap := w.heap.setIfInBounds b (.map (E.modify j fun e => { e with key := .int kk a, val := ac.eval y }) c) } := by
      unfold Instr.mapUpdate
      simp only [Sem.run_bind, run_underlying hu, Result.andThen_ok, run_getMap hw, run_checkKey hk, run_findKey hk h6, hkey, Option.map_some, Option.getD_some, hold, Instr.keyThatStays, hsb, if_true, Sem.run_pure, hset_run, Nat.zero_add]
    unfold Oper.wp
    rw [hexec _ hrun]
    have hev : Ev h w (hset h b (some (.map kk (mput a (aev τ y) es)))) { w with heap := w.heap.setIfInBounds b (.map (E.modify j fun e => { e with key := .int kk a, val := ac.eval y }) c) } := Ev.write hb _ _
    refine hK undef _ _ _ (.v _) (r.heap.write hb _ _ fun l hl => ?_) hev k
    injection hl with hl
    subst hl
    rw [mput_at h1 h3 h5] at hev ⊢
    refine ⟨E.modify j fun e => { e with key := .int kk a, val := ac.eval y }, c, by simp [Array.getElem?_setIfInBounds, hlt], by simp [hsz], fun i h1' h2' => ?_⟩
    rw [List.getElem_set, Array.getElem_modify]
    by_cases hij : j = i
    · subst hij
      rw [if_pos rfl, if_pos rfl]
      exact ⟨rfl, hyv.mono hev⟩
    · rw [if_neg hij, if_neg hij]
      simp at h1' h2'
      exact ⟨(hE i h1' h2').1, (hE i h1' h2').2.mono hev⟩
theorem ARun.lenM {t : TypeId} {x : Operand} {kk : IntKind} {z : AVal} {b : Nat} {es : List (Int × AVal)} [M : Mp P t kk z] (ho : o.op = .call { callee := .builtin .len, args := #[x], argTypes := #[t] }) (hx : aev τ x = .v (.map (some b))) (hb : h b = some (.map kk es)) : ARun P n o τ h (.v (.int .i64 es.length)) := fun a w r => by
  obtain ⟨key, elem, zv, hu, hk, hz, hzz⟩ := M.ok
  obtain ⟨E, c, hw, hsz, hE⟩ := r.heap b _ hb
  refine ⟨.int .i64 es.length, ?_, .v _⟩
  unfold execOp
  simp only [ho, resolve, invoke, builtin, Builtin.len_, List.map_toArray, List.map_cons, List.map_nil, Sem.run_bind, Sem.run_pure, Result.andThen_ok, r.eval_v hx, List.getElem?_toArray, List.getElem?_cons_zero, run_underlying hu, run_getMap hw, goInt, hsz]
end

/-! ### Several slices of one's own -/
/-- One slice of one's own: what it is told to be. -/
structure OS where
  n : Nat
  cs : List AVal
  x : AVal
/-- Own slices, one upon the other, over h0. -/
def Owns (h0 : AHeap) (e : TypeId) (sz : Nat) : List OS → AHeap → Prop
  | [], h => h = h0
  | s :: r, h => ∃ h1, Owns h0 e sz r h1 ∧ Own h1 e sz s.n s.cs s.x h
theorem Own.swap {h0 h1 h : AHeap} {e e' : TypeId} {sz sz' n n' : Nat} {cs cs' : List AVal} {x x' : AVal} (a : Own h0 e sz n cs x h1) (b : Own h1 e' sz' n' cs' x' h) : ∃ h2, Own h0 e' sz' n' cs' x' h2 ∧ Own h2 e sz n cs x h := by
  obtain ⟨la, ⟨aa, rfl, rfl, rfl⟩ | ⟨ba, ca, rfl, ha, hna, hma, rfl⟩⟩ := a
  · exact ⟨h, b, la, .inl ⟨aa, rfl, rfl, rfl⟩⟩
  · obtain ⟨lb, ⟨ab, rfl, rfl, rfl⟩ | ⟨bb, cb, rfl, hb, hnb, hmb, rfl⟩⟩ := b
    · exact ⟨h0, ⟨lb, .inl ⟨ab, rfl, rfl, rfl⟩⟩, la, .inr ⟨ba, ca, rfl, ha, hna, hma, rfl⟩⟩
    · have hne : bb ≠ ba := fresh_ne hb
      have hb0 := fresh_peel hb
      refine ⟨hset h0 bb (some (.cells cs' e' (cb * sz'))), ⟨lb, .inr ⟨bb, cb, rfl, hb0, hnb, hmb, rfl⟩⟩, la, .inr ⟨ba, ca, rfl, ?_, hna, hma, ?_⟩⟩
      · rw [hset_ne _ _ (Ne.symm hne)]; exact ha
      · exact hset_comm _ _ _ (Ne.symm hne)
theorem Owns.perm {h0 : AHeap} {e : TypeId} {sz : Nat} {l l' : List OS} (p : l.Perm l') : ∀ {h}, Owns h0 e sz l h → Owns h0 e sz l' h := by
  induction p with
  | nil => exact fun q => q
  | cons s _ ih => rintro h ⟨h1, q, r⟩; exact ⟨h1, ih q, r⟩
  | swap s t l =>
    rintro h ⟨h1, ⟨h2, q, r⟩, u⟩
    obtain ⟨h3, u', r'⟩ := r.swap u
    exact ⟨h3, ⟨h2, q, u'⟩, r'⟩
  | trans _ _ i1 i2 => exact fun q => i2 (i1 q)
theorem Owns.sub {h0 : AHeap} {e : TypeId} {sz : Nat} : ∀ {l : List OS} {h}, Owns h0 e sz l h → HSub h0 h
  | [], h, q => by cases q; exact HSub.refl _
  | s :: r, h, ⟨h1, q, o⟩ => (Owns.sub q).trans o.freeze.1
end Go.Ab

namespace Go.Ab
/-- The own block is not one of the base's. -/
theorem Own.get {h0 h : AHeap} {e : TypeId} {sz n : Nat} {cs : List AVal} {x : AVal} (q : Own h0 e sz n cs x h) {c : Nat} {k : ABlk} (hc : h0 c = some k) : h c = some k := q.freeze.1 c k hc
/-- A block of the base is written. -/
theorem Own.upd {h0 h : AHeap} {e : TypeId} {sz n : Nat} {cs : List AVal} {x : AVal} (q : Own h0 e sz n cs x h) {c : Nat} {k : ABlk} (l : ABlk) (hc : h0 c = some k) : Own (hset h0 c (some l)) e sz n cs x (hset h c (some l)) := by
  obtain ⟨hl, ⟨a, rfl, rfl, rfl⟩ | ⟨b, cc, rfl, hb, hn, hm, rfl⟩⟩ := q
  · exact ⟨hl, .inl ⟨a, rfl, rfl, rfl⟩⟩
  · have hne : b ≠ c := by rintro rfl; rw [hb] at hc; cases hc
    refine ⟨hl, .inr ⟨b, cc, rfl, by rw [hset_ne _ _ hne]; exact hb, hn, hm, ?_⟩⟩
    exact hset_comm _ _ _ hne
/-- A new block for the base. -/
theorem Own.new {h0 h : AHeap} {e : TypeId} {sz n : Nat} {cs : List AVal} {x : AVal} (q : Own h0 e sz n cs x h) {c : Nat} (l : ABlk) (hc : h c = none) : Own (hset h0 c (some l)) e sz n cs x (hset h c (some l)) := by
  obtain ⟨hl, ⟨a, rfl, rfl, rfl⟩ | ⟨b, cc, rfl, hb, hn, hm, rfl⟩⟩ := q
  · exact ⟨hl, .inl ⟨a, rfl, rfl, rfl⟩⟩
  · have hne : b ≠ c := by rintro rfl; rw [hset_same] at hc; cases hc
    refine ⟨hl, .inr ⟨b, cc, rfl, by rw [hset_ne _ _ hne]; exact hb, hn, hm, ?_⟩⟩
    exact hset_comm _ _ _ hne
theorem Own.base {h0 h : AHeap} {e : TypeId} {sz n : Nat} {cs : List AVal} {x : AVal} (q : Own h0 e sz n cs x h) {c : Nat} (hc : h c = none) : h0 c = none := by
  cases e' : h0 c with
  | none => rfl
  | some k => rw [q.get e'] at hc; cases hc
/-- The slice's own block, opened. -/
theorem Own.blk {h0 h : AHeap} {e : TypeId} {sz n : Nat} {cs : List AVal} {x : AVal} (q : Own h0 e sz n cs x h) (hn : 0 < n) : ∃ b c, x = .v (.slice (some ⟨b, 0, none⟩) n c) ∧ h0 b = none ∧ n ≤ c ∧ c ≤ maxLen ∧ h = hset h0 b (some (.cells cs e (c * sz))) := by
  obtain ⟨hl, ⟨a, rfl, rfl, rfl⟩ | q⟩ := q
  · exact absurd hn (Nat.lt_irrefl _)
  · exact q
theorem Own.isSlice {h0 h : AHeap} {e : TypeId} {sz n : Nat} {cs : List AVal} {x : AVal} (q : Own h0 e sz n cs x h) : ∃ a c, x = .v (.slice a n c) ∧ n ≤ c := by
  obtain ⟨hl, ⟨a, rfl, rfl, rfl⟩ | ⟨b, c, rfl, _, h, _⟩⟩ := q
  · exact ⟨a, 0, rfl, Nat.le_refl _⟩
  · exact ⟨_, c, rfl, h⟩
end Go.Ab

namespace Go.Ab
theorem xcells_of_cell {y : AVal} (h : cellB y = true) : xcells y = some [y] := by
  cases y with
  | v x => cases x <;> first | rfl | (simp [cellB, Value.oneCell'] at h; done)
  | ls n cs => rfl
  | lp cs o => rfl
  | agg cs => simp [cellB] at h
  | tup cs => simp [cellB] at h
  | any => simp [cellB] at h
theorem all_getElem {p : AVal → Bool} {l : List AVal} (h : l.all p = true) {i : Nat} (hi : i < l.length) : p l[i] = true := List.all_eq_true.1 h _ (List.getElem_mem hi)
theorem all_set {p : AVal → Bool} {l : List AVal} {i : Nat} {x : AVal} (h : l.all p = true) (hx : p x = true) : (l.set i x).all p = true := List.all_eq_true.2 fun y hy => by
  rcases List.mem_or_eq_of_mem_set hy with q | q
  · exact List.all_eq_true.1 h _ q
  · rw [q]; exact hx
end Go.Ab

/- The layer's rules (6): borrowed blocks. No statement is proved here. -/
set_option linter.unusedVariables false
set_option linter.unusedSimpArgs false
namespace Go.Ab

/-- Nothing is one's own. -/
def h00 : AHeap := fun _ => none
theorem h00_sub (h : AHeap) : HSub h00 h := fun _ _ e => by cases e
theorem h00_ok (w : World) : HeapOK h00 w := fun _ _ e => by cases e
theorem Ev.of00 {h : AHeap} {w w' : World} (e : Ev h00 w h00 w') : Ev h w h w' := ⟨e.size, fun b hb hn => ⟨hn, (e.old b hb rfl).2⟩, e.os, e.tape, e.output⟩
theorem HeapOK.of00 {h : AHeap} {w w' : World} (o : HeapOK h w) (e : Ev h00 w h00 w') : HeapOK h w' := fun b k q => (o b k q).mono (Ev.of00 e) (e.old b (o.lt q) rfl).2
/-- A function that writes nothing and answers a plain value: what it reads may be one's own. -/
theorem Sp.borrow {P : Program} {f : FuncId} {args args' : List AVal} {h : AHeap} {R : AVal → Prop} (s : Sp P f args' h00 (fun x h' => R x ∧ h' = h00)) (hR : ∀ x, R x → ∃ v, x = .v v) (hl : args.length = args'.length)
    (ha : ∀ w, HeapOK h w → ∀ i (h1 : i < args.length) (h2 : i < args'.length) v, VR w h args[i] v → VR w h00 args'[i] v) : Sp P f args h (fun x h' => R x ∧ h' = h) :=
  ⟨s.enter, fun w cargs a b c => (s.calls w cargs (h00_ok w) (b.trans hl) fun i h1 h2 => ha w a i (by omega) h1 _ (c i (by omega) h2)).mono fun e w' ⟨v, x, h', q1, q2, q3, q4, q5, q6⟩ => by
    subst q6
    obtain ⟨u, rfl⟩ := hR x q5
    rw [q2.inv_v] at q1
    exact ⟨u, .v u, h, q1, .v u, a.of00 q4, Ev.of00 q4, q5, rfl⟩⟩
theorem VR.to00 {h : AHeap} {w : World} {x : AVal} {v : Value} (r : VR w h x v) : VR w h00 x v := r.mono ((h00_sub h).ev w)
theorem Own.to00 {h0 h : AHeap} {e : TypeId} {sz n : Nat} {cs : List AVal} {x : AVal} (q : Own h0 e sz n cs x h) {w : World} (o : HeapOK h w) {v : Value} (r : VR w h x v) : VR w h00 (.ls n cs) v := (q.freeze.2 w v o r).to00

end Go.Ab

/- The layer's rules (7): a map whose values are slices of one's own. No statement is proved here. -/
set_option linter.unusedVariables false
set_option linter.unusedSimpArgs false
namespace Go.Ab

/-- What is known is another's that knows less of the blocks. -/
theorem Le.of_ok {n : Nat} {τ : Env} {h h' : AHeap} (hn : ∀ b, h b = none → h' b = none) (ho : ∀ w, HeapOK h w → HeapOK h' w) : Le n τ h τ h' := fun a w r => by
  have e : Ev h w h' w := ⟨Nat.le_refl _, fun b _ hb => ⟨hn b hb, rfl⟩, rfl, rfl, rfl⟩
  exact ⟨r.ev e (ho w r.heap), e⟩
theorem Owns.upd {e : TypeId} {sz : Nat} {c : Nat} {k : ABlk} (l : ABlk) : ∀ {L : List OS} {h0 h : AHeap}, Owns h0 e sz L h → h0 c = some k → h c = some k ∧ Owns (hset h0 c (some l)) e sz L (hset h c (some l))
  | [], h0, h, q, hc => by cases q; exact ⟨hc, rfl⟩
  | s :: L, h0, h, ⟨h1, q, o⟩, hc => by
    obtain ⟨h2, q2⟩ := Owns.upd l q hc
    exact ⟨o.get h2, hset h1 c (some l), q2, o.upd l h2⟩

/-- A key, its slice's numbers, its slice's head. -/
structure MT where
  key : Int
  l : List Int
  x : AVal
def MT.os (t : MT) : OS := ⟨t.l.length, t.l.map eI, t.x⟩
def MT.ent (t : MT) : Int × AVal := (t.key, t.x)
def MT.fro (t : MT) : Int × AVal := (t.key, eIs t.l)
/-- Block b is a map whose values are slices of one's own: M is what they hold. -/
def MOwn (h0 : AHeap) (e : TypeId) (b : Nat) (M : Int → List Int) (es : List (Int × AVal)) (H : AHeap) : Prop :=
  ∃ L : List MT, es = L.map MT.ent ∧ (L.map MT.key).Nodup ∧ (∀ t ∈ L, M t.key = t.l) ∧ (∀ y, (∀ t ∈ L, t.key ≠ y) → M y = []) ∧ h0 b = none ∧ Owns (hset h0 b (some (.map .i64 es))) e 1 (L.map MT.os) H

theorem mt_split (y : Int) : ∀ L : List MT, (∀ t ∈ L, t.key ≠ y) ∨ ∃ A t B, L = A ++ t :: B ∧ t.key = y ∧ ∀ s ∈ A, s.key ≠ y
  | [] => .inl fun t ht => by simp at ht
  | s :: L => by
    by_cases h : s.key = y
    · exact .inr ⟨[], s, L, rfl, h, fun t ht => by simp at ht⟩
    · rcases mt_split y L with q | ⟨A, t, B, rfl, h2, h3⟩
      · exact .inl fun t ht => by
          rcases List.mem_cons.1 ht with e | e
          · subst e; exact h
          · exact q t e
      · exact .inr ⟨s :: A, t, B, rfl, h2, fun t ht => by
          rcases List.mem_cons.1 ht with e | e
          · subst e; exact h
          · exact h3 t e⟩
theorem mget_miss {y : Int} {g : MT → Int × AVal} (hg : ∀ t, (g t).1 = t.key) : ∀ {L : List MT}, (∀ t ∈ L, t.key ≠ y) → mget y (L.map g) = none
  | [], _ => rfl
  | s :: L, h => by
    show mget y (((g s).1, (g s).2) :: L.map g) = none
    unfold mget
    rw [if_neg (fun e => h s (by simp) (by rw [← hg]; exact e.symm)), mget_miss hg fun t ht => h t (by simp [ht])]
theorem mget_hit {y : Int} {g : MT → Int × AVal} (hg : ∀ t, (g t).1 = t.key) {t : MT} (ht : t.key = y) {B : List MT} : ∀ {A : List MT}, (∀ s ∈ A, s.key ≠ y) → mget y ((A ++ t :: B).map g) = some (g t).2
  | [], _ => by
    show mget y (((g t).1, (g t).2) :: B.map g) = _
    unfold mget
    rw [if_pos (by rw [hg, ht])]
  | s :: A, h => by
    show mget y (((g s).1, (g s).2) :: (A ++ t :: B).map g) = _
    unfold mget
    rw [if_neg (fun e => h s (by simp) (by rw [← hg]; exact e.symm)), mget_hit hg ht fun t ht => h t (by simp [ht])]
theorem mput_hit {y : Int} {x' : AVal} {t : MT} (ht : t.key = y) {B : List MT} : ∀ {A : List MT}, (∀ s ∈ A, s.key ≠ y) → mput y x' ((A ++ t :: B).map MT.ent) = (A.map MT.ent) ++ (y, x') :: B.map MT.ent
  | [], _ => by
    show mput y x' ((t.key, t.x) :: B.map MT.ent) = _
    unfold mput
    rw [if_pos ht.symm, ht]; rfl
  | s :: A, h => by
    show mput y x' ((s.key, s.x) :: (A ++ t :: B).map MT.ent) = _
    unfold mput
    rw [if_neg (fun e => h s (by simp) e.symm), mput_hit ht fun t ht => h t (by simp [ht])]; rfl

/-- The slice of a key; a longer one may be put in its place. -/
theorem MOwn.at_ {h0 : AHeap} {e : TypeId} {b : Nat} {M : Int → List Int} {es : List (Int × AVal)} {H : AHeap} (q : MOwn h0 e b M es H) (y : Int) :
    H b = some (.map .i64 es) ∧ ∃ H1, Own H1 e 1 (M y).length ((M y).map eI) ((mget y es).getD (.v (.slice none 0 0))) H ∧
      ∀ (l : List Int) (x' : AVal) (H2 : AHeap), Own H1 e 1 l.length (l.map eI) x' H2 → H2 b = some (.map .i64 es) ∧ MOwn h0 e b (fun i => if i = y then l else M i) (mput y x' es) (hset H2 b (some (.map .i64 (mput y x' es)))) := by
  obtain ⟨L, rfl, hnd, hM, hM0, hb, ho⟩ := q
  have hbase : hset h0 b (some (.map .i64 (L.map MT.ent))) b = some (.map .i64 (L.map MT.ent)) := hset_same _ _ _
  refine ⟨ho.sub _ _ hbase, ?_⟩
  rcases mt_split y L with hmiss | ⟨A, t, B, rfl, ht, hA⟩
  · refine ⟨H, ?_, fun l x' H2 o2 => ⟨o2.get (ho.sub _ _ hbase), ?_⟩⟩
    · rw [hM0 y hmiss, mget_miss (fun _ => rfl) hmiss]
      exact Own.nil H e 1
    · have hput : mput y x' (L.map MT.ent) = (L ++ [(⟨y, l, x'⟩ : MT)]).map MT.ent := by
        rw [mput_none (mget_miss (fun _ => rfl) hmiss), List.map_append]; rfl
      refine ⟨L ++ [(⟨y, l, x'⟩ : MT)], hput, ?_, fun s hs => ?_, fun i hi => ?_, hb, ?_⟩
      · rw [List.map_append]
        refine List.nodup_append.2 ⟨hnd, by simp, fun a ha c hc => ?_⟩
        obtain ⟨s, hs, rfl⟩ := List.mem_map.1 ha
        have : c = y := by simpa using hc
        subst this; exact hmiss s hs
      · rcases List.mem_append.1 hs with e1 | e1
        · show (if s.key = y then l else M s.key) = s.l
          rw [if_neg (hmiss s e1)]; exact hM s e1
        · have : s = ⟨y, l, x'⟩ := by simpa using e1
          subst this; simp
      · have hiy : i ≠ y := fun e1 => hi (⟨y, l, x'⟩ : MT) (by simp) e1.symm
        show (if i = y then l else M i) = []
        rw [if_neg hiy]; exact hM0 i fun s hs => hi s (by simp [hs])
      · rw [hput]
        have o3 : Owns (hset h0 b (some (.map .i64 (L.map MT.ent)))) e 1 (MT.os ⟨y, l, x'⟩ :: L.map MT.os) H2 := ⟨H, ho, o2⟩
        have o4 := (Owns.upd (.map .i64 ((L ++ [(⟨y, l, x'⟩ : MT)]).map MT.ent)) o3 hbase).2
        rw [hset_hset] at o4
        refine Owns.perm ?_ o4
        rw [List.map_append]
        exact (List.perm_append_singleton _ _).symm
  · have hperm : ((A ++ t :: B).map MT.os).Perm (t.os :: (A ++ B).map MT.os) := by
      rw [← List.map_cons (f := MT.os)]
      exact List.Perm.map _ List.perm_middle
    obtain ⟨H1, ho1, o1⟩ := Owns.perm hperm ho
    have hMy : M y = t.l := by rw [← ht]; exact hM t (by simp)
    refine ⟨H1, ?_, fun l x' H2 o2 => ?_⟩
    · rw [hMy, mget_hit (fun _ => rfl) ht hA]; exact o1
    · have o3 : Owns (hset h0 b (some (.map .i64 ((A ++ t :: B).map MT.ent)))) e 1 (MT.os ⟨y, l, x'⟩ :: (A ++ B).map MT.os) H2 := ⟨H1, ho1, o2⟩
      have hput : mput y x' ((A ++ t :: B).map MT.ent) = (A ++ (⟨y, l, x'⟩ : MT) :: B).map MT.ent := by
        rw [mput_hit ht hA, List.map_append]; rfl
      obtain ⟨hb2, o4⟩ := Owns.upd (.map .i64 ((A ++ (⟨y, l, x'⟩ : MT) :: B).map MT.ent)) o3 hbase
      rw [hset_hset] at o4
      have hnd' : ((A ++ (⟨y, l, x'⟩ : MT) :: B).map MT.key).Nodup := by
        have : (A ++ (⟨y, l, x'⟩ : MT) :: B).map MT.key = (A ++ t :: B).map MT.key := by simp [ht]
        rw [this]; exact hnd
      have hB : ∀ s ∈ B, s.key ≠ y := by
        rw [List.map_append, List.map_cons] at hnd
        have h1 := (List.nodup_append.1 hnd).2.1
        intro s hs e1
        exact (List.nodup_cons.1 h1).1 (by rw [ht, ← e1]; exact List.mem_map_of_mem hs)
      refine ⟨hb2, A ++ ⟨y, l, x'⟩ :: B, hput, hnd', fun s hs => ?_, fun i hi => ?_, hb, ?_⟩
      · show (if s.key = y then l else M s.key) = s.l
        rcases List.mem_append.1 hs with e1 | e1
        · rw [if_neg (hA s e1)]; exact hM s (by simp [e1])
        · rcases List.mem_cons.1 e1 with e2 | e2
          · subst e2; simp
          · rw [if_neg (hB s e2)]; exact hM s (by simp [e2])
      · have hiy : i ≠ y := fun e1 => hi (⟨y, l, x'⟩ : MT) (by simp) e1.symm
        show (if i = y then l else M i) = []
        rw [if_neg hiy]
        refine hM0 i fun s hs => ?_
        rcases List.mem_append.1 hs with e1 | e1
        · exact hi s (by simp [e1])
        · rcases List.mem_cons.1 e1 with e2 | e2
          · subst e2; rw [ht]; exact hiy.symm
          · exact hi s (by simp [e2])
      · rw [hput]
        refine Owns.perm ?_ o4
        rw [← List.map_cons (f := MT.os)]
        exact List.Perm.map _ List.perm_middle.symm
theorem MOwn.new {h0 : AHeap} {e : TypeId} {b : Nat} (hb : h0 b = none) : MOwn h0 e b (fun _ => []) [] (hset h0 b (some (.map .i64 []))) :=
  ⟨[], rfl, List.nodup_nil, fun t ht => by simp at ht, fun _ _ => rfl, hb, rfl⟩
/-- The map is read and never written any more. -/
theorem MOwn.freeze {n : Nat} {τ : Env} {h0 : AHeap} {e : TypeId} {b : Nat} {M : Int → List Int} {es : List (Int × AVal)} {H : AHeap} (q : MOwn h0 e b M es H) :
    ∃ es', Le n τ H τ (hset h0 b (some (.map .i64 es'))) ∧ h0 b = none ∧ ∀ y, mget y es' = some (eIs (M y)) ∨ (mget y es' = none ∧ M y = []) := by
  obtain ⟨L, rfl, hnd, hM, hM0, hb, ho⟩ := q
  have hbase : hset h0 b (some (.map .i64 (L.map MT.ent))) b = some (.map .i64 (L.map MT.ent)) := hset_same _ _ _
  have hnone : ∀ c, hset h0 b (some (.map .i64 (L.map MT.ent))) c = none → hset h0 b (some (.map .i64 (L.map MT.fro))) c = none := fun c hc => by
    rw [hset_ne _ _ (fresh_ne hc)]; exact fresh_peel hc
  have hsubn : ∀ {H1 : AHeap}, HSub (hset h0 b (some (.map .i64 (L.map MT.ent)))) H1 → ∀ c, H1 c = none → hset h0 b (some (.map .i64 (L.map MT.fro))) c = none := fun s c hc => hnone c (by
    cases e1 : hset h0 b (some (.map .i64 (L.map MT.ent))) c with
    | none => rfl
    | some k => exact absurd ((s c k e1).symm.trans hc) (by simp))
  refine ⟨L.map MT.fro, Le.of_ok (hsubn ho.sub) fun w hok c k hc => ?_, hb, fun y => ?_⟩
  · have ev : Ev H w (hset h0 b (some (.map .i64 (L.map MT.fro)))) w := ⟨Nat.le_refl _, fun c _ hc => ⟨hsubn ho.sub c hc, rfl⟩, rfl, rfl, rfl⟩
    by_cases hcb : c = b
    · subst hcb
      rw [hset_same] at hc
      injection hc with hc
      subst hc
      obtain ⟨E, cl, hw, hsz, hE⟩ := hok c _ (ho.sub _ _ hbase)
      refine ⟨E, cl, hw, by simpa using hsz, fun i h1 h2 => ?_⟩
      have hiL : i < L.length := by simpa using h1
      obtain ⟨hk, hv⟩ := hE i (by simpa using hiL) h2
      simp only [List.getElem_map] at hk hv ⊢
      refine ⟨hk, ?_⟩
      have hsplit : L = L.take i ++ L[i] :: L.drop (i + 1) := by rw [List.getElem_cons_drop, List.take_append_drop]
      have hperm : (L.map MT.os).Perm (L[i].os :: (L.take i ++ L.drop (i + 1)).map MT.os) := by
        rw [← List.map_cons (f := MT.os)]
        refine List.Perm.map _ ?_
        have : (L.take i ++ L[i] :: L.drop (i + 1)).Perm (L[i] :: (L.take i ++ L.drop (i + 1))) := List.perm_middle
        rw [← hsplit] at this
        exact this
      obtain ⟨H1, ho1, o1⟩ := Owns.perm hperm ho
      have := o1.freeze.2 w _ hok hv
      show VR w _ (eIs L[i].l) _
      have ev1 : Ev H1 w (hset h0 c (some (.map .i64 (L.map MT.fro)))) w := ⟨Nat.le_refl _, fun d _ hd => ⟨hsubn ho1.sub d hd, rfl⟩, rfl, rfl, rfl⟩
      exact this.mono ev1
    · rw [hset_ne _ _ hcb] at hc
      have : H c = some k := ho.sub c k (by rw [hset_ne _ _ hcb]; exact hc)
      exact (hok c k this).mono ev rfl
  · rcases mt_split y L with hmiss | ⟨A, t, B, rfl, ht, hA⟩
    · exact .inr ⟨mget_miss (fun _ => rfl) hmiss, hM0 y hmiss⟩
    · refine .inl ?_
      rw [mget_hit (fun _ => rfl) ht hA, ← ht, hM t (by simp)]; rfl
end Go.Ab

/- The layer's rules: a slice of one's own whose elements are slices of one's own. No statement is proved here. -/
set_option linter.unusedVariables false
set_option linter.unusedSimpArgs false
namespace Go.Ab

structure ST where
  l : List Int
  x : AVal
def ST.os (t : ST) : OS := ⟨t.l.length, t.l.map eI, t.x⟩
/-- Block b holds slices of one's own: rows is what they hold, xs their heads. -/
def SOwn (h0 : AHeap) (e et : TypeId) (b size : Nat) (rows : List (List Int)) (xs : List AVal) (H : AHeap) : Prop :=
  ∃ L : List ST, xs = L.map ST.x ∧ rows = L.map ST.l ∧ h0 b = none ∧ Owns (hset h0 b (some (.cells xs et size))) e 1 (L.map ST.os) H
theorem SOwn.len {h0 : AHeap} {e et : TypeId} {b size : Nat} {rows : List (List Int)} {xs : List AVal} {H : AHeap} (q : SOwn h0 e et b size rows xs H) : xs.length = rows.length := by
  obtain ⟨L, rfl, rfl, _⟩ := q; simp
theorem Own.cell {h0 : AHeap} {e : TypeId} {sz n : Nat} {cs : List AVal} {x : AVal} {h : AHeap} (q : Own h0 e sz n cs x h) : cellB x = true := by
  obtain ⟨a, c, rfl, _⟩ := q.isSlice
  rfl
theorem SOwn.new {h0 : AHeap} {e et : TypeId} {b : Nat} (hb : h0 b = none) (n size : Nat) : SOwn h0 e et b size (List.replicate n []) (List.replicate n (.v (.slice none 0 0))) (hset h0 b (some (.cells (List.replicate n (.v (.slice none 0 0))) et size))) := by
  refine ⟨List.replicate n ⟨[], .v (.slice none 0 0)⟩, by simp, by simp, hb, ?_⟩
  generalize hset h0 b (some (.cells (List.replicate n (.v (.slice none 0 0))) et size)) = H
  rw [List.map_replicate]
  induction n with
  | zero => rfl
  | succ n ih => exact ⟨H, ih, Own.nil H e 1⟩
theorem SOwn.at_ {h0 : AHeap} {e et : TypeId} {b size : Nat} {rows : List (List Int)} {xs : List AVal} {H : AHeap} (q : SOwn h0 e et b size rows xs H) {i : Nat} (hi : i < rows.length) :
    H b = some (.cells xs et size) ∧ ∃ x H1, xs[i]? = some x ∧ Own H1 e 1 rows[i].length (rows[i].map eI) x H ∧
      ∀ (l : List Int) (x' : AVal) (H2 : AHeap), Own H1 e 1 l.length (l.map eI) x' H2 → H2 b = some (.cells xs et size) ∧ SOwn h0 e et b size (rows.set i l) (xs.set i x') (hset H2 b (some (.cells (xs.set i x') et size))) := by
  obtain ⟨L, rfl, rfl, hb, ho⟩ := q
  have hbase : hset h0 b (some (.cells (L.map ST.x) et size)) b = some (.cells (L.map ST.x) et size) := hset_same _ _ _
  have hiL : i < L.length := by simpa using hi
  refine ⟨ho.sub _ _ hbase, L[i].x, ?_⟩
  have hsplit : L = L.take i ++ L[i] :: L.drop (i + 1) := by rw [List.getElem_cons_drop, List.take_append_drop]
  have hperm : (L.map ST.os).Perm (L[i].os :: (L.take i ++ L.drop (i + 1)).map ST.os) := by
    rw [← List.map_cons (f := ST.os)]
    refine List.Perm.map _ ?_
    have : (L.take i ++ L[i] :: L.drop (i + 1)).Perm (L[i] :: (L.take i ++ L.drop (i + 1))) := List.perm_middle
    rw [← hsplit] at this
    exact this
  obtain ⟨H1, ho1, o1⟩ := Owns.perm hperm ho
  refine ⟨H1, by rw [List.getElem?_map, List.getElem?_eq_getElem hiL]; rfl, by rw [List.getElem_map]; exact o1, fun l x' H2 o2 => ?_⟩
  have o3 : Owns (hset h0 b (some (.cells (L.map ST.x) et size))) e 1 (ST.os ⟨l, x'⟩ :: (L.take i ++ L.drop (i + 1)).map ST.os) H2 := ⟨H1, ho1, o2⟩
  have hx : (L.map ST.x).set i x' = (L.set i ⟨l, x'⟩).map ST.x := by rw [List.map_set]
  have hl : (L.map ST.l).set i l = (L.set i ⟨l, x'⟩).map ST.l := by rw [List.map_set]
  obtain ⟨hb2, o4⟩ := Owns.upd (.cells ((L.map ST.x).set i x') et size) o3 hbase
  rw [hset_hset] at o4
  refine ⟨hb2, L.set i ⟨l, x'⟩, hx, hl, hb, Owns.perm ?_ o4⟩
  rw [← List.map_cons (f := ST.os)]
  refine List.Perm.map _ ?_
  rw [List.set_eq_take_append_cons_drop, if_pos hiL]
  exact List.perm_middle.symm
/-- The slices are read and never written any more. -/
theorem SOwn.freeze {n : Nat} {τ : Env} {h0 : AHeap} {e et : TypeId} {b size : Nat} {rows : List (List Int)} {xs : List AVal} {H : AHeap} (q : SOwn h0 e et b size rows xs H) :
    Le n τ H τ (hset h0 b (some (.cells (rows.map eIs) et size))) := by
  obtain ⟨L, rfl, rfl, hb, ho⟩ := q
  have hbase : hset h0 b (some (.cells (L.map ST.x) et size)) b = some (.cells (L.map ST.x) et size) := hset_same _ _ _
  have hnone : ∀ c, hset h0 b (some (.cells (L.map ST.x) et size)) c = none → hset h0 b (some (.cells ((L.map ST.l).map eIs) et size)) c = none := fun c hc => by
    rw [hset_ne _ _ (fresh_ne hc)]; exact fresh_peel hc
  have hsubn : ∀ {H1 : AHeap}, HSub (hset h0 b (some (.cells (L.map ST.x) et size))) H1 → ∀ c, H1 c = none → hset h0 b (some (.cells ((L.map ST.l).map eIs) et size)) c = none := fun s c hc => hnone c (by
    cases e1 : hset h0 b (some (.cells (L.map ST.x) et size)) c with
    | none => rfl
    | some k => exact absurd ((s c k e1).symm.trans hc) (by simp))
  refine Le.of_ok (hsubn ho.sub) fun w hok c k hc => ?_
  have ev : Ev H w (hset h0 b (some (.cells ((L.map ST.l).map eIs) et size))) w := ⟨Nat.le_refl _, fun c _ hc => ⟨hsubn ho.sub c hc, rfl⟩, rfl, rfl, rfl⟩
  by_cases hcb : c = b
  · subst hcb
    rw [hset_same] at hc
    injection hc with hc
    subst hc
    obtain ⟨C, hw, hsz, hle, hC⟩ := hok c _ (ho.sub _ _ hbase)
    refine ⟨C, hw, hsz, by simpa using hle, fun i h1 h2 => ?_⟩
    have hiL : i < L.length := by simpa using h1
    have hv := hC i (by simpa using hiL) h2
    simp only [List.getElem_map] at hv ⊢
    have hsplit : L = L.take i ++ L[i] :: L.drop (i + 1) := by rw [List.getElem_cons_drop, List.take_append_drop]
    have hperm : (L.map ST.os).Perm (L[i].os :: (L.take i ++ L.drop (i + 1)).map ST.os) := by
      rw [← List.map_cons (f := ST.os)]
      refine List.Perm.map _ ?_
      have : (L.take i ++ L[i] :: L.drop (i + 1)).Perm (L[i] :: (L.take i ++ L.drop (i + 1))) := List.perm_middle
      rw [← hsplit] at this
      exact this
    obtain ⟨H1, ho1, o1⟩ := Owns.perm hperm ho
    have := o1.freeze.2 w _ hok hv
    have ev1 : Ev H1 w (hset h0 c (some (.cells ((L.map ST.l).map eIs) et size))) w := ⟨Nat.le_refl _, fun d _ hd => ⟨hsubn ho1.sub d hd, rfl⟩, rfl, rfl, rfl⟩
    exact this.mono ev1
  · rw [hset_ne _ _ hcb] at hc
    have : H c = some k := ho.sub c k (by rw [hset_ne _ _ hcb]; exact hc)
    exact (hok c k this).mono ev rfl
end Go.Ab

/- MADE BY PROGRAM (wip/types.py): what the program's types are: size, zero value, fields, elements. No statement is proved here. -/
set_option linter.unusedVariables false
namespace Go.Proofs.Ytilanageangegaa
open Go.Ab
instance ty2 : Ty Try.prog 2 false 1 [(.v (.int .i64 0))] := ⟨by kernel_rfl, by kernel_rfl, by kernel_rfl⟩
instance ik2 : Ik Try.prog 2 .i64 := ⟨by kernel_rfl⟩
instance ty3 : Ty Try.prog 3 false 1 [(.v (.int .i64 0))] := ⟨by kernel_rfl, by kernel_rfl, by kernel_rfl⟩
instance ik3 : Ik Try.prog 3 .i64 := ⟨by kernel_rfl⟩
instance ty4 : Ty Try.prog 4 false 1 [(.v (.bool false))] := ⟨by kernel_rfl, by kernel_rfl, by kernel_rfl⟩
instance ty5 : Ty Try.prog 5 false 1 [(.v (.int .u8 0))] := ⟨by kernel_rfl, by kernel_rfl, by kernel_rfl⟩
instance ik5 : Ik Try.prog 5 .u8 := ⟨by kernel_rfl⟩
instance ty9 : Ty Try.prog 9 false 1 [(.v (.string ⟨#[]⟩))] := ⟨by kernel_rfl, by kernel_rfl, by kernel_rfl⟩
instance ty21 : Ty Try.prog 21 false 1 [(.v (.int .i32 0))] := ⟨by kernel_rfl, by kernel_rfl, by kernel_rfl⟩
instance ik21 : Ik Try.prog 21 .i32 := ⟨by kernel_rfl⟩
instance ty23 : Ty Try.prog 23 true 2 [(.v (.int .i64 0)), (.v (.bool false))] := ⟨by kernel_rfl, by kernel_rfl, by kernel_rfl⟩
instance bd23 : Bd Try.prog 23 [(0, 1), (1, 1)] := ⟨by kernel_rfl⟩
instance fd23_0 : Fo Try.prog 23 0 0 := ⟨by kernel_rfl⟩
instance fd23_1 : Fo Try.prog 23 1 1 := ⟨by kernel_rfl⟩
instance ty24 : Ty Try.prog 24 false 1 [(.v (.slice none 0 0))] := ⟨by kernel_rfl, by kernel_rfl, by kernel_rfl⟩
instance sl24 : Sl Try.prog 24 23 2 16 := ⟨by kernel_rfl, by kernel_rfl, by kernel_rfl⟩
instance ty26 : Ty Try.prog 26 true 3 [(.v (.int .i64 0)), (.v (.bool false)), (.v (.slice none 0 0))] := ⟨by kernel_rfl, by kernel_rfl, by kernel_rfl⟩
instance bd26 : Bd Try.prog 26 [(0, 2), (2, 1)] := ⟨by kernel_rfl⟩
instance fd26_0 : Fo Try.prog 26 0 0 := ⟨by kernel_rfl⟩
instance fd26_1 : Fo Try.prog 26 1 2 := ⟨by kernel_rfl⟩
instance ty27 : Ty Try.prog 27 false 1 [(.v (.slice none 0 0))] := ⟨by kernel_rfl, by kernel_rfl, by kernel_rfl⟩
instance sl27 : Sl Try.prog 27 60 10 128 := ⟨by kernel_rfl, by kernel_rfl, by kernel_rfl⟩
instance ty29 : Ty Try.prog 29 true 2 [(.v (.slice none 0 0)), (.v (.int .i64 0))] := ⟨by kernel_rfl, by kernel_rfl, by kernel_rfl⟩
instance bd29 : Bd Try.prog 29 [(0, 1), (1, 1)] := ⟨by kernel_rfl⟩
instance fd29_0 : Fo Try.prog 29 0 0 := ⟨by kernel_rfl⟩
instance fd29_1 : Fo Try.prog 29 1 1 := ⟨by kernel_rfl⟩
instance ty30 : Ty Try.prog 30 false 1 [(.v (.slice none 0 0))] := ⟨by kernel_rfl, by kernel_rfl, by kernel_rfl⟩
instance sl30 : Sl Try.prog 30 42 4 32 := ⟨by kernel_rfl, by kernel_rfl, by kernel_rfl⟩
instance ty33 : Ty Try.prog 33 false 1 [(.v (.int .i64 0))] := ⟨by kernel_rfl, by kernel_rfl, by kernel_rfl⟩
instance ik33 : Ik Try.prog 33 .i64 := ⟨by kernel_rfl⟩
instance ty42 : Ty Try.prog 42 true 4 [(.v (.bool false)), (.v (.int .i64 0)), (.v (.int .i64 0)), (.v (.int .i64 0))] := ⟨by kernel_rfl, by kernel_rfl, by kernel_rfl⟩
instance bd42 : Bd Try.prog 42 [(0, 1), (1, 1), (2, 1), (3, 1)] := ⟨by kernel_rfl⟩
instance fd42_0 : Fo Try.prog 42 0 0 := ⟨by kernel_rfl⟩
instance fd42_1 : Fo Try.prog 42 1 1 := ⟨by kernel_rfl⟩
instance fd42_2 : Fo Try.prog 42 2 2 := ⟨by kernel_rfl⟩
instance fd42_3 : Fo Try.prog 42 3 3 := ⟨by kernel_rfl⟩
instance ty49 : Ty Try.prog 49 false 1 [(.v (.slice none 0 0))] := ⟨by kernel_rfl, by kernel_rfl, by kernel_rfl⟩
instance sl49 : Sl Try.prog 49 4 1 1 := ⟨by kernel_rfl, by kernel_rfl, by kernel_rfl⟩
instance ty51 : Ty Try.prog 51 false 1 [(.v (.slice none 0 0))] := ⟨by kernel_rfl, by kernel_rfl, by kernel_rfl⟩
instance sl51 : Sl Try.prog 51 66 2 16 := ⟨by kernel_rfl, by kernel_rfl, by kernel_rfl⟩
instance ty53 : Ty Try.prog 53 false 1 [(.v (.slice none 0 0))] := ⟨by kernel_rfl, by kernel_rfl, by kernel_rfl⟩
instance sl53 : Sl Try.prog 53 3 1 8 := ⟨by kernel_rfl, by kernel_rfl, by kernel_rfl⟩
instance ty54 : Ty Try.prog 54 false 1 [(.v (.slice none 0 0))] := ⟨by kernel_rfl, by kernel_rfl, by kernel_rfl⟩
instance sl54 : Sl Try.prog 54 88 2 32 := ⟨by kernel_rfl, by kernel_rfl, by kernel_rfl⟩
instance ty55 : Ty Try.prog 55 false 1 [(.v (.slice none 0 0))] := ⟨by kernel_rfl, by kernel_rfl, by kernel_rfl⟩
instance sl55 : Sl Try.prog 55 64 12 112 := ⟨by kernel_rfl, by kernel_rfl, by kernel_rfl⟩
instance ty56 : Ty Try.prog 56 false 1 [(.v (.int .i64 0))] := ⟨by kernel_rfl, by kernel_rfl, by kernel_rfl⟩
instance ik56 : Ik Try.prog 56 .i64 := ⟨by kernel_rfl⟩
instance ty58 : Ty Try.prog 58 true 7 [(.v (.int .i64 0)), (.v (.int .i64 0)), (.v (.bool false)), (.v (.int .i64 0)), (.v (.int .i64 0)), (.v (.int .i64 0)), (.v (.int .i64 0))] := ⟨by kernel_rfl, by kernel_rfl, by kernel_rfl⟩
instance bd58 : Bd Try.prog 58 [(0, 1), (1, 1), (2, 1), (3, 1), (4, 1), (5, 1), (6, 1)] := ⟨by kernel_rfl⟩
instance fd58_0 : Fo Try.prog 58 0 0 := ⟨by kernel_rfl⟩
instance fd58_1 : Fo Try.prog 58 1 1 := ⟨by kernel_rfl⟩
instance fd58_2 : Fo Try.prog 58 2 2 := ⟨by kernel_rfl⟩
instance fd58_3 : Fo Try.prog 58 3 3 := ⟨by kernel_rfl⟩
instance fd58_4 : Fo Try.prog 58 4 4 := ⟨by kernel_rfl⟩
instance fd58_5 : Fo Try.prog 58 5 5 := ⟨by kernel_rfl⟩
instance fd58_6 : Fo Try.prog 58 6 6 := ⟨by kernel_rfl⟩
instance ty60 : Ty Try.prog 60 true 10 [(.v (.slice none 0 0)), (.v (.slice none 0 0)), (.v (.slice none 0 0)), (.v (.int .i64 0)), (.v (.int .i64 0)), (.v (.bool false)), (.v (.int .i64 0)), (.v (.int .i64 0)), (.v (.int .i64 0)), (.v (.int .i64 0))] := ⟨by kernel_rfl, by kernel_rfl, by kernel_rfl⟩
instance bd60 : Bd Try.prog 60 [(0, 1), (1, 1), (2, 1), (3, 7)] := ⟨by kernel_rfl⟩
instance fd60_0 : Fo Try.prog 60 0 0 := ⟨by kernel_rfl⟩
instance fd60_1 : Fo Try.prog 60 1 1 := ⟨by kernel_rfl⟩
instance fd60_2 : Fo Try.prog 60 2 2 := ⟨by kernel_rfl⟩
instance fd60_3 : Fo Try.prog 60 3 3 := ⟨by kernel_rfl⟩
instance ty61 : Ty Try.prog 61 false 1 [(.v (.int .i64 0))] := ⟨by kernel_rfl, by kernel_rfl, by kernel_rfl⟩
instance ik61 : Ik Try.prog 61 .i64 := ⟨by kernel_rfl⟩
instance ty62 : Ty Try.prog 62 false 1 [(.v (.int .u64 0))] := ⟨by kernel_rfl, by kernel_rfl, by kernel_rfl⟩
instance ik62 : Ik Try.prog 62 .u64 := ⟨by kernel_rfl⟩
instance ty64 : Ty Try.prog 64 true 12 [(.v (.int .i64 0)), (.v (.int .i64 0)), (.v (.int .i64 0)), (.v (.bool false)), (.v (.int .i64 0)), (.v (.int .i64 0)), (.v (.int .u64 0)), (.v (.int .i64 0)), (.v (.int .i64 0)), (.v (.bool false)), (.v (.slice none 0 0)), (.v (.int .i64 0))] := ⟨by kernel_rfl, by kernel_rfl, by kernel_rfl⟩
instance bd64 : Bd Try.prog 64 [(0, 1), (1, 1), (2, 1), (3, 1), (4, 1), (5, 1), (6, 1), (7, 1), (8, 1), (9, 1), (10, 1), (11, 1)] := ⟨by kernel_rfl⟩
instance fd64_0 : Fo Try.prog 64 0 0 := ⟨by kernel_rfl⟩
instance fd64_1 : Fo Try.prog 64 1 1 := ⟨by kernel_rfl⟩
instance fd64_2 : Fo Try.prog 64 2 2 := ⟨by kernel_rfl⟩
instance fd64_3 : Fo Try.prog 64 3 3 := ⟨by kernel_rfl⟩
instance fd64_4 : Fo Try.prog 64 4 4 := ⟨by kernel_rfl⟩
instance fd64_5 : Fo Try.prog 64 5 5 := ⟨by kernel_rfl⟩
instance fd64_6 : Fo Try.prog 64 6 6 := ⟨by kernel_rfl⟩
instance fd64_7 : Fo Try.prog 64 7 7 := ⟨by kernel_rfl⟩
instance fd64_8 : Fo Try.prog 64 8 8 := ⟨by kernel_rfl⟩
instance fd64_9 : Fo Try.prog 64 9 9 := ⟨by kernel_rfl⟩
instance fd64_10 : Fo Try.prog 64 10 10 := ⟨by kernel_rfl⟩
instance fd64_11 : Fo Try.prog 64 11 11 := ⟨by kernel_rfl⟩
instance ty66 : Ty Try.prog 66 true 2 [(.v (.int .u64 0)), (.v (.int .u64 0))] := ⟨by kernel_rfl, by kernel_rfl, by kernel_rfl⟩
instance bd66 : Bd Try.prog 66 [(0, 1), (1, 1)] := ⟨by kernel_rfl⟩
instance fd66_0 : Fo Try.prog 66 0 0 := ⟨by kernel_rfl⟩
instance fd66_1 : Fo Try.prog 66 1 1 := ⟨by kernel_rfl⟩
instance ty68 : Ty Try.prog 68 false 1 [(.v (.slice none 0 0))] := ⟨by kernel_rfl, by kernel_rfl, by kernel_rfl⟩
instance sl68 : Sl Try.prog 68 123 1 24 := ⟨by kernel_rfl, by kernel_rfl, by kernel_rfl⟩
instance ty69 : Ty Try.prog 69 false 1 [(.v (.slice none 0 0))] := ⟨by kernel_rfl, by kernel_rfl, by kernel_rfl⟩
instance sl69 : Sl Try.prog 69 62 1 8 := ⟨by kernel_rfl, by kernel_rfl, by kernel_rfl⟩
instance ty70 : Ty Try.prog 70 false 1 [(.v (.int .i64 0))] := ⟨by kernel_rfl, by kernel_rfl, by kernel_rfl⟩
instance ik70 : Ik Try.prog 70 .i64 := ⟨by kernel_rfl⟩
instance ty71 : Ty Try.prog 71 false 1 [(.v (.int .i64 0))] := ⟨by kernel_rfl, by kernel_rfl, by kernel_rfl⟩
instance ik71 : Ik Try.prog 71 .i64 := ⟨by kernel_rfl⟩
instance ty72 : Ty Try.prog 72 false 1 [(.v (.slice none 0 0))] := ⟨by kernel_rfl, by kernel_rfl, by kernel_rfl⟩
instance sl72 : Sl Try.prog 72 127 3 56 := ⟨by kernel_rfl, by kernel_rfl, by kernel_rfl⟩
instance ty74 : Ty Try.prog 74 true 7 [(.v (.int .i64 0)), (.v (.int .u64 0)), (.v (.int .i64 0)), (.v (.int .i64 0)), (.v (.int .i64 0)), (.v (.slice none 0 0)), (.v (.slice none 0 0))] := ⟨by kernel_rfl, by kernel_rfl, by kernel_rfl⟩
instance bd74 : Bd Try.prog 74 [(0, 1), (1, 1), (2, 1), (3, 1), (4, 1), (5, 1), (6, 1)] := ⟨by kernel_rfl⟩
instance fd74_0 : Fo Try.prog 74 0 0 := ⟨by kernel_rfl⟩
instance fd74_1 : Fo Try.prog 74 1 1 := ⟨by kernel_rfl⟩
instance fd74_2 : Fo Try.prog 74 2 2 := ⟨by kernel_rfl⟩
instance fd74_3 : Fo Try.prog 74 3 3 := ⟨by kernel_rfl⟩
instance fd74_4 : Fo Try.prog 74 4 4 := ⟨by kernel_rfl⟩
instance fd74_5 : Fo Try.prog 74 5 5 := ⟨by kernel_rfl⟩
instance fd74_6 : Fo Try.prog 74 6 6 := ⟨by kernel_rfl⟩
instance ty88 : Ty Try.prog 88 true 2 [(.v (.int .i64 0)), (.v (.slice none 0 0))] := ⟨by kernel_rfl, by kernel_rfl, by kernel_rfl⟩
instance bd88 : Bd Try.prog 88 [(0, 1), (1, 1)] := ⟨by kernel_rfl⟩
instance fd88_0 : Fo Try.prog 88 0 0 := ⟨by kernel_rfl⟩
instance fd88_1 : Fo Try.prog 88 1 1 := ⟨by kernel_rfl⟩
instance ty90 : Ty Try.prog 90 false 1 [(.v (.slice none 0 0))] := ⟨by kernel_rfl, by kernel_rfl, by kernel_rfl⟩
instance sl90 : Sl Try.prog 90 53 1 24 := ⟨by kernel_rfl, by kernel_rfl, by kernel_rfl⟩
instance ty93 : Ty Try.prog 93 false 1 [(.v (.slice none 0 0))] := ⟨by kernel_rfl, by kernel_rfl, by kernel_rfl⟩
instance sl93 : Sl Try.prog 93 167 3 24 := ⟨by kernel_rfl, by kernel_rfl, by kernel_rfl⟩
instance ty97 : Ty Try.prog 97 false 1 [(.v (.slice none 0 0))] := ⟨by kernel_rfl, by kernel_rfl, by kernel_rfl⟩
instance sl97 : Sl Try.prog 97 49 1 24 := ⟨by kernel_rfl, by kernel_rfl, by kernel_rfl⟩
instance ty100 : Ty Try.prog 100 true 5 [(.v (.slice none 0 0)), (.v (.int .i64 0)), (.v (.slice none 0 0)), (.v (.slice none 0 0)), (.v (.slice none 0 0))] := ⟨by kernel_rfl, by kernel_rfl, by kernel_rfl⟩
instance bd100 : Bd Try.prog 100 [(0, 2), (2, 1), (3, 1), (4, 1)] := ⟨by kernel_rfl⟩
instance fd100_0 : Fo Try.prog 100 0 0 := ⟨by kernel_rfl⟩
instance fd100_1 : Fo Try.prog 100 1 2 := ⟨by kernel_rfl⟩
instance fd100_2 : Fo Try.prog 100 2 3 := ⟨by kernel_rfl⟩
instance fd100_3 : Fo Try.prog 100 3 4 := ⟨by kernel_rfl⟩
instance ty105 : Ty Try.prog 105 false 1 [(.v (.map none))] := ⟨by kernel_rfl, by kernel_rfl, by kernel_rfl⟩
instance mp105 : Mp Try.prog 105 .i64 (.v (.slice none 0 0)) := ⟨3, 53, (.slice none 0 0), by kernel_rfl, by kernel_rfl, by kernel_rfl, .inl rfl⟩
instance ty111 : Ty Try.prog 111 false 1 [(.v (.pointer none))] := ⟨by kernel_rfl, by kernel_rfl, by kernel_rfl⟩
instance ty115 : Ty Try.prog 115 true 3 [(.v (.slice none 0 0)), (.v (.int .i64 0)), (.v (.slice none 0 0))] := ⟨by kernel_rfl, by kernel_rfl, by kernel_rfl⟩
instance bd115 : Bd Try.prog 115 [(0, 2), (2, 1)] := ⟨by kernel_rfl⟩
instance fd115_0 : Fo Try.prog 115 0 0 := ⟨by kernel_rfl⟩
instance fd115_1 : Fo Try.prog 115 1 2 := ⟨by kernel_rfl⟩
instance ty122 : Ty Try.prog 122 true 9 [(.v (.int .i64 0)), (.v (.bool false)), (.v (.slice none 0 0)), (.v (.slice none 0 0)), (.v (.slice none 0 0)), (.v (.slice none 0 0)), (.v (.slice none 0 0)), (.v (.int .i64 0)), (.v (.int .i64 0))] := ⟨by kernel_rfl, by kernel_rfl, by kernel_rfl⟩
instance bd122 : Bd Try.prog 122 [(0, 3), (3, 1), (4, 1), (5, 1), (6, 1), (7, 1), (8, 1)] := ⟨by kernel_rfl⟩
instance fd122_0 : Fo Try.prog 122 0 0 := ⟨by kernel_rfl⟩
instance fd122_1 : Fo Try.prog 122 1 3 := ⟨by kernel_rfl⟩
instance fd122_2 : Fo Try.prog 122 2 4 := ⟨by kernel_rfl⟩
instance fd122_3 : Fo Try.prog 122 3 5 := ⟨by kernel_rfl⟩
instance fd122_4 : Fo Try.prog 122 4 6 := ⟨by kernel_rfl⟩
instance fd122_5 : Fo Try.prog 122 5 7 := ⟨by kernel_rfl⟩
instance fd122_6 : Fo Try.prog 122 6 8 := ⟨by kernel_rfl⟩
instance ty123 : Ty Try.prog 123 false 1 [(.v (.slice none 0 0))] := ⟨by kernel_rfl, by kernel_rfl, by kernel_rfl⟩
instance sl123 : Sl Try.prog 123 5 1 1 := ⟨by kernel_rfl, by kernel_rfl, by kernel_rfl⟩
instance ty127 : Ty Try.prog 127 true 3 [(.v (.int .i64 0)), (.v (.slice none 0 0)), (.v (.slice none 0 0))] := ⟨by kernel_rfl, by kernel_rfl, by kernel_rfl⟩
instance bd127 : Bd Try.prog 127 [(0, 1), (1, 1), (2, 1)] := ⟨by kernel_rfl⟩
instance fd127_0 : Fo Try.prog 127 0 0 := ⟨by kernel_rfl⟩
instance fd127_1 : Fo Try.prog 127 1 1 := ⟨by kernel_rfl⟩
instance fd127_2 : Fo Try.prog 127 2 2 := ⟨by kernel_rfl⟩
instance ty130 : Ty Try.prog 130 false 1 [(.v (.slice none 0 0))] := ⟨by kernel_rfl, by kernel_rfl, by kernel_rfl⟩
instance sl130 : Sl Try.prog 130 157 2 16 := ⟨by kernel_rfl, by kernel_rfl, by kernel_rfl⟩
instance ty132 : Ty Try.prog 132 true 4 [(.v (.slice none 0 0)), (.v (.int .i64 0)), (.v (.slice none 0 0)), (.v (.slice none 0 0))] := ⟨by kernel_rfl, by kernel_rfl, by kernel_rfl⟩
instance bd132 : Bd Try.prog 132 [(0, 2), (2, 1), (3, 1)] := ⟨by kernel_rfl⟩
instance fd132_0 : Fo Try.prog 132 0 0 := ⟨by kernel_rfl⟩
instance fd132_1 : Fo Try.prog 132 1 2 := ⟨by kernel_rfl⟩
instance fd132_2 : Fo Try.prog 132 2 3 := ⟨by kernel_rfl⟩
instance ty133 : Ty Try.prog 133 false 1 [(.v .nilFunc)] := ⟨by kernel_rfl, by kernel_rfl, by kernel_rfl⟩
instance ty134 : Ty Try.prog 134 false 1 [(.v (.slice none 0 0))] := ⟨by kernel_rfl, by kernel_rfl, by kernel_rfl⟩
instance sl134 : Sl Try.prog 134 133 1 8 := ⟨by kernel_rfl, by kernel_rfl, by kernel_rfl⟩
instance ty136 : Ty Try.prog 136 false 1 [(.v .nilIface)] := ⟨by kernel_rfl, by kernel_rfl, by kernel_rfl⟩
instance ty138 : Ty Try.prog 138 false 1 [(.v (.int .i64 0))] := ⟨by kernel_rfl, by kernel_rfl, by kernel_rfl⟩
instance ik138 : Ik Try.prog 138 .i64 := ⟨by kernel_rfl⟩
instance ty153 : Ty Try.prog 153 false 1 [(.v (.pointer none))] := ⟨by kernel_rfl, by kernel_rfl, by kernel_rfl⟩
instance ty155 : Ty Try.prog 155 true 2 [(.v (.int .i64 0)), (.v (.int .i64 0))] := ⟨by kernel_rfl, by kernel_rfl, by kernel_rfl⟩
instance bd155 : Bd Try.prog 155 [(0, 1), (1, 1)] := ⟨by kernel_rfl⟩
instance fd155_0 : Fo Try.prog 155 0 0 := ⟨by kernel_rfl⟩
instance fd155_1 : Fo Try.prog 155 1 1 := ⟨by kernel_rfl⟩
instance ty157 : Ty Try.prog 157 true 2 [(.v (.int .i64 0)), (.v (.int .i64 0))] := ⟨by kernel_rfl, by kernel_rfl, by kernel_rfl⟩
instance bd157 : Bd Try.prog 157 [(0, 1), (1, 1)] := ⟨by kernel_rfl⟩
instance fd157_0 : Fo Try.prog 157 0 0 := ⟨by kernel_rfl⟩
instance fd157_1 : Fo Try.prog 157 1 1 := ⟨by kernel_rfl⟩
instance ty167 : Ty Try.prog 167 true 3 [(.v (.bool false)), (.v (.int .i64 0)), (.v (.int .i64 0))] := ⟨by kernel_rfl, by kernel_rfl, by kernel_rfl⟩
instance bd167 : Bd Try.prog 167 [(0, 1), (1, 1), (2, 1)] := ⟨by kernel_rfl⟩
instance fd167_0 : Fo Try.prog 167 0 0 := ⟨by kernel_rfl⟩
instance fd167_1 : Fo Try.prog 167 1 1 := ⟨by kernel_rfl⟩
instance fd167_2 : Fo Try.prog 167 2 2 := ⟨by kernel_rfl⟩
instance ty170 : Ty Try.prog 170 false 1 [(.v (.slice none 0 0))] := ⟨by kernel_rfl, by kernel_rfl, by kernel_rfl⟩
instance sl170 : Sl Try.prog 170 204 1 8 := ⟨by kernel_rfl, by kernel_rfl, by kernel_rfl⟩
instance ty172 : Ty Try.prog 172 true 3 [(.v (.string ⟨#[]⟩)), (.v (.slice none 0 0)), (.v (.int .i64 0))] := ⟨by kernel_rfl, by kernel_rfl, by kernel_rfl⟩
instance bd172 : Bd Try.prog 172 [(0, 1), (1, 1), (2, 1)] := ⟨by kernel_rfl⟩
instance fd172_0 : Fo Try.prog 172 0 0 := ⟨by kernel_rfl⟩
instance fd172_1 : Fo Try.prog 172 1 1 := ⟨by kernel_rfl⟩
instance fd172_2 : Fo Try.prog 172 2 2 := ⟨by kernel_rfl⟩
instance ty178 : Ty Try.prog 178 false 1 [(.v (.int .u64 0))] := ⟨by kernel_rfl, by kernel_rfl, by kernel_rfl⟩
instance ik178 : Ik Try.prog 178 .u64 := ⟨by kernel_rfl⟩
instance ty189 : Ty Try.prog 189 false 1 [(.v (.map none))] := ⟨by kernel_rfl, by kernel_rfl, by kernel_rfl⟩
instance mp189 : Mp Try.prog 189 .i64 (.v (.int .i64 0)) := ⟨3, 3, (.int .i64 0), by kernel_rfl, by kernel_rfl, by kernel_rfl, .inl rfl⟩
instance ty200 : Ty Try.prog 200 false 1 [(.v (.slice none 0 0))] := ⟨by kernel_rfl, by kernel_rfl, by kernel_rfl⟩
instance sl200 : Sl Try.prog 200 136 1 16 := ⟨by kernel_rfl, by kernel_rfl, by kernel_rfl⟩
instance ty204 : Ty Try.prog 204 false 1 [(.v (.int .i64 0))] := ⟨by kernel_rfl, by kernel_rfl, by kernel_rfl⟩
instance ik204 : Ik Try.prog 204 .i64 := ⟨by kernel_rfl⟩
instance ty205 : Ty Try.prog 205 false 1 [(.v (.int .u32 0))] := ⟨by kernel_rfl, by kernel_rfl, by kernel_rfl⟩
instance ik205 : Ik Try.prog 205 .u32 := ⟨by kernel_rfl⟩
instance ty214 : Ty Try.prog 214 false 1 [(.v (.map none))] := ⟨by kernel_rfl, by kernel_rfl, by kernel_rfl⟩
instance mp214 : Mp Try.prog 214 .i64 (.v (.bool false)) := ⟨3, 4, (.bool false), by kernel_rfl, by kernel_rfl, by kernel_rfl, .inl rfl⟩
instance ty215 : Ty Try.prog 215 false 1 [(.v .nilFunc)] := ⟨by kernel_rfl, by kernel_rfl, by kernel_rfl⟩
instance ty229 : Ty Try.prog 229 false 1 [(.v (.map none))] := ⟨by kernel_rfl, by kernel_rfl, by kernel_rfl⟩
instance mp229 : Mp Try.prog 229 .i64 (.agg [(.v (.string ⟨#[]⟩)), (.v (.slice none 0 0)), (.v (.int .i64 0))]) := ⟨3, 172, .agg #[(.string ⟨#[]⟩), (.slice none 0 0), (.int .i64 0)], by kernel_rfl, by kernel_rfl, by kernel_rfl, .inr ⟨#[(.string ⟨#[]⟩), (.slice none 0 0), (.int .i64 0)], rfl, rfl⟩⟩
instance ty233 : Ty Try.prog 233 false 1 [(.v (.slice none 0 0))] := ⟨by kernel_rfl, by kernel_rfl, by kernel_rfl⟩
instance sl233 : Sl Try.prog 233 33 1 8 := ⟨by kernel_rfl, by kernel_rfl, by kernel_rfl⟩
instance ty234 : Ty Try.prog 234 false 1 [(.v (.int .i64 0))] := ⟨by kernel_rfl, by kernel_rfl, by kernel_rfl⟩
instance ik234 : Ik Try.prog 234 .i64 := ⟨by kernel_rfl⟩
instance ty237 : Ty Try.prog 237 true 2 [(.v (.int .u64 0)), (.v (.int .i64 0))] := ⟨by kernel_rfl, by kernel_rfl, by kernel_rfl⟩
instance bd237 : Bd Try.prog 237 [(0, 1), (1, 1)] := ⟨by kernel_rfl⟩
instance fd237_0 : Fo Try.prog 237 0 0 := ⟨by kernel_rfl⟩
instance fd237_1 : Fo Try.prog 237 1 1 := ⟨by kernel_rfl⟩
instance ty247 : Ty Try.prog 247 true 8 [(.v (.int .u8 0)), (.v (.int .u8 0)), (.v (.int .u8 0)), (.v (.int .u8 0)), (.v (.int .u8 0)), (.v (.int .u8 0)), (.v (.int .u8 0)), (.v (.int .u8 0))] := ⟨by kernel_rfl, by kernel_rfl, by kernel_rfl⟩
instance ar247 : Ar Try.prog 247 8 5 1 := ⟨by kernel_rfl, by kernel_rfl⟩
instance ty248 : Ty Try.prog 248 false 1 [(.v (.pointer none))] := ⟨by kernel_rfl, by kernel_rfl, by kernel_rfl⟩
instance ty250 : Ty Try.prog 250 true 2 [(.v (.int .i64 0)), (.v (.int .i64 0))] := ⟨by kernel_rfl, by kernel_rfl, by kernel_rfl⟩
instance bd250 : Bd Try.prog 250 [(0, 1), (1, 1)] := ⟨by kernel_rfl⟩
instance fd250_0 : Fo Try.prog 250 0 0 := ⟨by kernel_rfl⟩
instance fd250_1 : Fo Try.prog 250 1 1 := ⟨by kernel_rfl⟩
instance ty251 : Ty Try.prog 251 false 1 [(.v (.slice none 0 0))] := ⟨by kernel_rfl, by kernel_rfl, by kernel_rfl⟩
instance sl251 : Sl Try.prog 251 237 2 16 := ⟨by kernel_rfl, by kernel_rfl, by kernel_rfl⟩
instance ty253 : Ty Try.prog 253 true 2 [(.v (.int .i64 0)), (.v (.int .i64 0))] := ⟨by kernel_rfl, by kernel_rfl, by kernel_rfl⟩
instance ar253 : Ar Try.prog 253 2 204 1 := ⟨by kernel_rfl, by kernel_rfl⟩
instance ty255 : Ty Try.prog 255 false 1 [(.v (.int .i64 0))] := ⟨by kernel_rfl, by kernel_rfl, by kernel_rfl⟩
instance ik255 : Ik Try.prog 255 .i64 := ⟨by kernel_rfl⟩
instance ty256 : Ty Try.prog 256 false 1 [(.v (.pointer none))] := ⟨by kernel_rfl, by kernel_rfl, by kernel_rfl⟩
instance ty258 : Ty Try.prog 258 true 2 [(.v (.int .u64 0)), (.v (.int .i64 0))] := ⟨by kernel_rfl, by kernel_rfl, by kernel_rfl⟩
instance bd258 : Bd Try.prog 258 [(0, 1), (1, 1)] := ⟨by kernel_rfl⟩
instance fd258_0 : Fo Try.prog 258 0 0 := ⟨by kernel_rfl⟩
instance fd258_1 : Fo Try.prog 258 1 1 := ⟨by kernel_rfl⟩
end Go.Proofs.Ytilanageangegaa

namespace Go.Proofs.Ytilanageangegaa
open Go.Ab

theorem mixed : Try.prog.follows .mixedOrders = true := by kernel_rfl

set_option maxRecDepth 10000 in
theorem Ints_spec (a b : List Int) (h : AHeap) (ha : a.length ≤ 1000000000) : Sp Try.prog 39 [eIs a, eIs b] h (fun x h' => x = eB (decide (a = b)) ∧ h' = h) := by
  refine Sp.of Try.func39 rfl rfl (by show 2 ≤ 26; decide) ?_
  (repeat (first | refine AC.seq ?_ | refine AC.block ?_ | refine AC.skip ?_))
  refine AC.region ?_
  refine AOps.step rfl rfl ?_
  refine AOp.of_run (ARun.mvV (.inr rfl) rfl) ?_
  refine AOps.nil ?_
  (repeat (first | refine AC.seq ?_ | refine AC.block ?_ | refine AC.skip ?_))
  refine AC.region ?_
  refine AOps.step rfl rfl ?_
  refine AOp.of_run (ARun.mvL (.inl rfl) rfl) ?_
  refine AOps.step rfl rfl ?_
  refine AOp.of_run (ARun.lenL rfl rfl) ?_
  refine AOps.step rfl rfl ?_
  refine AOp.of_run (ARun.mvL (.inl rfl) rfl) ?_
  refine AOps.step rfl rfl ?_
  refine AOp.of_run (ARun.lenL rfl rfl) ?_
  refine AOps.step rfl rfl ?_
  refine AOp.of_run (ARun.neq rfl rfl rfl) ?_
  refine AOps.nil ?_
  (repeat (first | refine AC.seq ?_ | refine AC.block ?_ | refine AC.skip ?_)); refine AC.cond rfl (fun hc => ?_) (fun hc => ?_)
  · (repeat (first | refine AC.seq ?_ | refine AC.block ?_ | refine AC.skip ?_))
    refine AC.region ?_
    refine AOps.step rfl rfl ?_
    refine AOp.of_run (ARun.mvV (.inr rfl) rfl) ?_
    refine AOps.nil ?_
    refine AC.ret (ARes.one rfl (RV.V rfl) ⟨?_, rfl⟩)
    have : a ≠ b := fun e => by subst e; simp at hc
    simp [eB, this]
  have hl : a.length = b.length := by simp at hc; omega
  (repeat (first | refine AC.seq ?_ | refine AC.block ?_ | refine AC.skip ?_))
  refine AC.region ?_
  refine AOps.step rfl rfl ?_
  refine AOp.of_run (ARun.mvV (.inr rfl) rfl) ?_
  refine AOps.nil ?_
  (repeat (first | refine AC.seq ?_ | refine AC.block ?_ | refine AC.skip ?_ | refine AC.exit ?_))
  refine AC.loop (fun m τ h' => ∃ k, k ≤ a.length ∧ m = a.length - k ∧ Slots τ [(0, eIs a), (1, eIs b), (5, eI k)] ∧ (∀ i (h1 : i < a.length) (h2 : i < b.length), i < k → a[i] = b[i]) ∧ h' = h) a.length ?_ ?_
  · exact ⟨0, Nat.zero_le _, rfl, ⟨rfl, rfl, rfl, trivial⟩, fun i _ _ hi => absurd hi (Nat.not_lt_zero _), rfl⟩
  rintro m τ h' ⟨k, hk, rfl, hs, hall, rfl⟩
  obtain ⟨t0, rfl⟩ := hs.open_
  (repeat (first | refine AC.seq ?_ | refine AC.block ?_ | refine AC.skip ?_))
  refine AC.region ?_
  refine AOps.step rfl rfl ?_
  refine AOp.of_run (ARun.mvV (.inl rfl) rfl) ?_
  refine AOps.step rfl rfl ?_
  refine AOp.of_run (ARun.mvL (.inl rfl) rfl) ?_
  refine AOps.step rfl rfl ?_
  refine AOp.of_run (ARun.lenL rfl rfl) ?_
  refine AOps.step rfl rfl ?_
  refine AOp.of_run (ARun.lss rfl rfl rfl) ?_
  refine AOps.nil ?_
  (repeat (first | refine AC.seq ?_ | refine AC.block ?_ | refine AC.skip ?_)); refine AC.cond rfl (fun hc => ?_) (fun hc => ?_)
  · have hlt : k < a.length := by simpa using hc
    have hlt2 : k < b.length := by omega
    (repeat (first | refine AC.seq ?_ | refine AC.block ?_ | refine AC.skip ?_ | refine AC.exit ?_))
    (repeat (first | refine AC.seq ?_ | refine AC.block ?_ | refine AC.skip ?_))
    refine AC.drawnH [0, 1, 2, 3, 4, 5, 6, 7, 8] [3, 7] [0, 1, 2, 3, 4, 5, 6, 7, 8] mixed (by kernel_rfl) ?_
    refine RunA.pure rfl rfl rfl rfl rfl (fun _ => ARun.mvL (.inl rfl) rfl) ?_
    refine RunA.pure rfl rfl rfl rfl rfl (fun _ => ARun.mvV (.inl rfl) rfl) ?_
    refine RunA.pure rfl rfl rfl rfl rfl (fun _ => ARun.indexAddrL rfl rfl rfl (by omega) (by omega)) ?_
    refine RunA.calm rfl rfl rfl rfl rfl (HSub.refl _) (fun _ hsub => ARun.loadL rfl rfl (get_map hlt)) ?_
    refine RunA.pure rfl rfl rfl rfl rfl (fun _ => ARun.mvL (.inl rfl) rfl) ?_
    refine RunA.pure rfl rfl rfl rfl rfl (fun _ => ARun.mvV (.inl rfl) rfl) ?_
    refine RunA.pure rfl rfl rfl rfl rfl (fun _ => ARun.indexAddrL rfl rfl rfl (by omega) (by omega)) ?_
    refine RunA.calm rfl rfl rfl rfl rfl (HSub.refl _) (fun _ hsub => ARun.loadL rfl rfl (get_map hlt2)) ?_
    refine RunA.pure rfl rfl rfl rfl rfl (fun _ => ARun.neq rfl rfl rfl) ?_
    refine RunA.nil ?_
    (repeat (first | refine AC.seq ?_ | refine AC.block ?_ | refine AC.skip ?_)); refine AC.cond rfl (fun hc => ?_) (fun hc => ?_)
    · (repeat (first | refine AC.seq ?_ | refine AC.block ?_ | refine AC.skip ?_))
      refine AC.region ?_
      refine AOps.step rfl rfl ?_
      refine AOp.of_run (ARun.mvV (.inr rfl) rfl) ?_
      refine AOps.nil ?_
      refine AC.ret (ARes.one rfl (RV.V rfl) ⟨?_, rfl⟩)
      have : a ≠ b := fun e => by subst e; simp at hc
      simp [eB, this]
    · have he : a[k] = b[k] := by simpa using hc
      (repeat (first | refine AC.seq ?_ | refine AC.block ?_ | refine AC.skip ?_))
      refine AC.region ?_
      refine AOps.step rfl rfl ?_
      refine AOp.of_run (ARun.mvV (.inl rfl) rfl) ?_
      refine AOps.step rfl rfl ?_
      refine AOp.of_run (ARun.add rfl rfl rfl) ?_
      refine AOps.step rfl rfl ?_
      refine AOp.of_run (ARun.mvV (.inr rfl) rfl) ?_
      refine AOps.nil ?_
      refine ⟨_, by omega, k + 1, hlt, rfl, ⟨rfl, rfl, eI_wrap (by omega) (by omega) (by omega), trivial⟩, fun i h1 h2 hi => ?_, rfl⟩
      rcases Nat.lt_or_ge i k with c | c
      · exact hall i h1 h2 c
      · obtain rfl : i = k := by omega
        exact he
  · have hge : k = a.length := by simp at hc; omega
    (repeat (first | refine AC.seq ?_ | refine AC.block ?_ | refine AC.skip ?_ | refine AC.exit ?_))
    (repeat (first | refine AC.seq ?_ | refine AC.block ?_ | refine AC.skip ?_))
    refine AC.region ?_
    refine AOps.step rfl rfl ?_
    refine AOp.of_run (ARun.mvV (.inr rfl) rfl) ?_
    refine AOps.nil ?_
    refine AC.ret (ARes.one rfl (RV.V rfl) ⟨?_, rfl⟩)
    have : a = b := List.ext_getElem hl fun i h1 h2 => hall i h1 h2 (by omega)
    simp [eB, this]
end Go.Proofs.Ytilanageangegaa
