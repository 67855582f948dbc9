/- Lemmas for: SolveMoreUpto holds: for every input the law returns true, and each argument reads behind the call as it read before. No condition. -/
import Derived.Test.YtcahhbcehnbdkaaProg
import Derived.Test.YtcahhbcehnbdkaaWTab
import Derived.Scope
import Derived.IntWalk
import Derived.KernelRfl
set_option linter.unusedVariables false
set_option linter.unusedSimpArgs false
/- What a search (the struct of package solve) holds in memory, and how one store or one append turns it. No program is walked here. -/
namespace Go.Proofs.Ytcahhbcehnbdkaa.Sv
open Go.RowKit Go.Proofs.YtcahhbcehnbdkaaW.PrintWords

/-- The slices that a search owns. -/
inductive Role where
  | clauses | watch | value | level | reason | active | trail | marks | proof
  | clause (i : Nat) | wrow (i : Nat) | prow (i : Nat)
  deriving DecidableEq

/-- A search as plain data. -/
structure S where
  atoms : Int
  clauses : List (List Int)
  watch : List (List Int)
  value : List Int
  level : List Int
  reason : List Int
  active : List Int
  trail : List Int
  marks : List Int
  head : Int
  proof : List (List Int)

abbrev Lay := Role → Value

def rowsOf (V : Nat → Value) (n : Nat) : List Value := (List.range n).map V
theorem rowsOf_length (V : Nat → Value) (n : Nat) : (rowsOf V n).length = n := by simp [rowsOf]
theorem rowsOf_get (V : Nat → Value) (n i : Nat) (h : i < n) : (rowsOf V n)[i]? = some (V i) := by simp [rowsOf, h]

/-- What the row of a role holds. -/
def C (s : S) (V : Lay) : Role → List Value
  | .clauses => rowsOf (fun i => V (.clause i)) s.clauses.length
  | .watch => rowsOf (fun i => V (.wrow i)) s.watch.length
  | .proof => rowsOf (fun i => V (.prow i)) s.proof.length
  | .value => nums .i8 s.value
  | .level => nums .i64 s.level
  | .reason => nums .i64 s.reason
  | .active => nums .i64 s.active
  | .trail => nums .i64 s.trail
  | .marks => nums .i64 s.marks
  | .clause i => nums .i64 (s.clauses.getD i [])
  | .wrow i => nums .i64 (s.watch.getD i [])
  | .prow i => nums .i64 (s.proof.getD i [])

def ty : Role → TypeId
  | .clauses | .watch | .proof => 41
  | .value => 53
  | _ => 3

/-- The struct's own cells. -/
def cellsS (s : S) (V : Lay) : Array Value :=
  #[.int .i64 s.atoms, V .clauses, V .watch, V .value, V .level, V .reason, V .active, V .trail, V .marks, .int .i64 s.head, V .proof]

/-- The blocks of a search. -/
def foot (g : Nat) (V : Lay) (k : Nat) : Prop := k = g ∨ ∃ r, (V r).ownBlock = some k

structure Srch (w : World) (B g : Nat) (s : S) (V : Lay) : Prop where
  own : ∀ r, w.ownsRow B (ty r) 1 (V r) (C s V r).length (C s V r)
  inj : ∀ r r' k, (V r).ownBlock = some k → (V r').ownBlock = some k → r = r'
  obj : w.heap[g]? = some (.cells (cellsS s V) 67 (0, 0))
  gB : B ≤ g
  gne : ∀ r, (V r).ownBlock ≠ some g
  vc : ∀ i, s.clauses.length ≤ i → V (.clause i) = .slice none 0 0
  vw : ∀ i, s.watch.length ≤ i → V (.wrow i) = .slice none 0 0
  vp : ∀ i, s.proof.length ≤ i → V (.prow i) = .slice none 0 0

/-- Only blocks of F, or new ones, may have turned. -/
structure Fr (F : Nat → Prop) (w w' : World) : Prop where
  os : w'.os = w.os
  tape : w'.tape = w.tape
  output : w'.output = w.output
  size : w.heap.size ≤ w'.heap.size
  block : ∀ k, k < w.heap.size → ¬ F k → w'.heap[k]? = w.heap[k]?

theorem Fr.refl (F : Nat → Prop) (w : World) : Fr F w w := ⟨rfl, rfl, rfl, Nat.le_refl _, fun _ _ _ => rfl⟩
theorem Fr.trans {F G : Nat → Prop} {a b c : World} (h : Fr F a b) (k : Fr G b c) (hs : ∀ i, G i → F i ∨ a.heap.size ≤ i) : Fr F a c :=
  ⟨k.os.trans h.os, k.tape.trans h.tape, k.output.trans h.output, Nat.le_trans h.size k.size, fun i hi hn => by
    refine (k.block i (Nat.lt_of_lt_of_le hi h.size) fun hg => ?_).trans (h.block i hi hn)
    rcases hs i hg with h1 | h1
    · exact hn h1
    · omega⟩
theorem Fr.mono {F G : Nat → Prop} {a b : World} (h : Fr F a b) (hs : ∀ i, F i → G i ∨ a.heap.size ≤ i) : Fr G a b :=
  ⟨h.os, h.tape, h.output, h.size, fun i hi hn => h.block i hi fun hf => by
    rcases hs i hf with h1 | h1
    · exact hn h1
    · omega⟩
theorem Fr.drew {F : Nat → Prop} {a w : World} (h : Fr F a w) : Fr F a w.drew := ⟨h.os, h.tape, h.output, h.size, h.block⟩
theorem Fr.drewN {F : Nat → Prop} {a w : World} (h : Fr F a w) (n : Nat) : Fr F a (w.drewN n) := ⟨h.os, h.tape, h.output, h.size, h.block⟩
theorem Fr.alloc {F : Nat → Prop} {a w : World} (h : Fr F a w) (o : Obj) : Fr F a (w.alloc o) :=
  ⟨h.os, h.tape, h.output, by have := h.size; simp; omega, fun k hk hn => (Below.heap_alloc w o k (Nat.lt_of_lt_of_le hk h.size)).trans (h.block k hk hn)⟩
theorem Fr.grown {F : Nat → Prop} {a w w' : World} {row : Option Nat} (h : Fr F a w) (hg : w.grownBy w' row) (hr : ∀ k, row = some k → F k ∨ a.heap.size ≤ k) : Fr F a w' :=
  ⟨hg.os.trans h.os, hg.tape.trans h.tape, hg.output.trans h.output, Nat.le_trans h.size hg.size, fun k hk hn => by
    refine (hg.block k (Nat.lt_of_lt_of_le hk h.size) fun e => ?_).trans (h.block k hk hn)
    rcases hr k e.symm with h1 | h1
    · exact hn h1
    · omega⟩
theorem Fr.cell {F : Nat → Prop} {w w' : World} (h : Fr F w w') {a : Addr} {v : Value} (hc : w.cell? a = some v) (hn : ¬ F a.block) : w'.cell? a = some v :=
  (World.cell?_of_block (h.block a.block (World.block_lt_of_cell? w a hc) hn)).trans hc
theorem Fr.unfr {F : Nat → Prop} {w w' : World} (h : Fr F w w') {a : Addr} {v : Value} (hc : w.cell? a = some v) (hf : w.frozen? a = false) (hn : ¬ F a.block) : w'.frozen? a = false :=
  (World.frozen?_of_block (h.block a.block (World.block_lt_of_cell? w a hc) hn)).trans hf
theorem Fr.below {F : Nat → Prop} {B : Nat} {a w w' : World} (hb : Below B a w) (h : Fr F w w') (hB : B ≤ w.heap.size) (hs : ∀ k, F k → B ≤ k) : Below B a w' :=
  ⟨h.os.trans hb.os, h.tape.trans hb.tape, h.output.trans hb.output, Nat.le_trans hb.size h.size, fun k hk => (h.block k (by omega) fun hf => by have := hs k hf; omega).trans (hb.block k hk)⟩

/-- A call on a search: what it may have turned, and where its new rows lie. -/
structure Goes (g : Nat) (V : Lay) (w : World) (V' : Lay) (w' : World) : Prop where
  fr : Fr (foot g V) w w'
  sub : ∀ k, foot g V' k → foot g V k ∨ w.heap.size ≤ k

theorem Goes.refl (g : Nat) (V : Lay) (w : World) : Goes g V w V w := ⟨Fr.refl _ _, fun _ h => .inl h⟩
theorem Goes.trans {g : Nat} {V V1 V2 : Lay} {w w1 w2 : World} (h : Goes g V w V1 w1) (k : Goes g V1 w1 V2 w2) : Goes g V w V2 w2 :=
  ⟨h.fr.trans k.fr h.sub, fun i hi => by
    rcases k.sub i hi with h1 | h1
    · exact h.sub i h1
    · exact .inr (Nat.le_trans h.fr.size h1)⟩
theorem Goes.drew {g : Nat} {V V' : Lay} {w w' : World} (h : Goes g V w V' w') : Goes g V w V' w'.drew := ⟨h.fr.drew, h.sub⟩
theorem Goes.drewN {g : Nat} {V V' : Lay} {w w' : World} (h : Goes g V w V' w') (n : Nat) : Goes g V w V' (w'.drewN n) := ⟨h.fr.drewN n, h.sub⟩
theorem Goes.alloc {g : Nat} {V V' : Lay} {w w' : World} (h : Goes g V w V' w') (o : Obj) : Goes g V w V' (w'.alloc o) := ⟨h.fr.alloc o, h.sub⟩

section
variable {w w' : World} {B g : Nat} {s : S} {V : Lay}

theorem Srch.lt (h : Srch w B g s V) {k : Nat} (hk : foot g V k) : k < w.heap.size := by
  rcases hk with rfl | ⟨r, hr⟩
  · exact (Array.getElem?_eq_some_iff.1 h.obj).1
  · exact ((h.own r).lt k hr).2
theorem Srch.ge (h : Srch w B g s V) {k : Nat} (hk : foot g V k) : B ≤ k := by
  rcases hk with rfl | ⟨r, hr⟩
  · exact h.gB
  · exact ((h.own r).lt k hr).1

theorem ownsRow_same {e : TypeId} {size n : Nat} {v : Value} {xs : List Value} (h : w.ownsRow B e size v n xs) (he : ∀ k, v.ownBlock = some k → w'.heap[k]? = w.heap[k]?) : w'.ownsRow B e size v n xs := by
  refine ⟨h.1, ?_⟩
  rcases h.2 with hn | ⟨q, cap, cur, rfl, hb, hgg, rest⟩
  · exact .inl hn
  · exact .inr ⟨q, cap, cur, rfl, hb, (he q rfl).trans hgg, rest⟩

/-- The search lives on where its blocks do. -/
theorem Srch.same (h : Srch w B g s V) (he : ∀ k, foot g V k → w'.heap[k]? = w.heap[k]?) : Srch w' B g s V :=
  { h with own := fun r => ownsRow_same (h.own r) fun k hk => he k (.inr ⟨r, hk⟩), obj := (he g (.inl rfl)).trans h.obj }
theorem Srch.drew (h : Srch w B g s V) : Srch w.drew B g s V := h.same fun _ _ => rfl
theorem Srch.drewN (h : Srch w B g s V) (n : Nat) : Srch (w.drewN n) B g s V := h.same fun _ _ => rfl
theorem Srch.alloc (h : Srch w B g s V) (o : Obj) : Srch (w.alloc o) B g s V := h.same fun k hk => Below.heap_alloc w o k (h.lt hk)
theorem Srch.fr {F : Nat → Prop} (h : Srch w B g s V) (hf : Fr F w w') (hd : ∀ k, F k → ¬ foot g V k) : Srch w' B g s V :=
  h.same fun k hk => hf.block k (h.lt hk) fun hk' => hd k hk' hk
theorem Srch.grown {row : Option Nat} (h : Srch w B g s V) (hg : w.grownBy w' row) (hd : ∀ k, row = some k → ¬ foot g V k) : Srch w' B g s V :=
  h.same fun k hk => hg.block k (h.lt hk) fun e => hd k e.symm hk

/-- The struct's cell of a field. -/
theorem Srch.field (h : Srch w B g s V) (j : Nat) {v : Value} (hv : (cellsS s V)[j]? = some v) : w.cell? ⟨g, j, none⟩ = some v := by
  rw [cell_of_row w g j _ _ _ h.obj, hv]
theorem Srch.f_atoms (h : Srch w B g s V) : w.cell? ⟨g, 0, none⟩ = some (.int .i64 s.atoms) := h.field 0 rfl
theorem Srch.f_clauses (h : Srch w B g s V) : w.cell? ⟨g, 1, none⟩ = some (V .clauses) := h.field 1 rfl
theorem Srch.f_watch (h : Srch w B g s V) : w.cell? ⟨g, 2, none⟩ = some (V .watch) := h.field 2 rfl
theorem Srch.f_value (h : Srch w B g s V) : w.cell? ⟨g, 3, none⟩ = some (V .value) := h.field 3 rfl
theorem Srch.f_level (h : Srch w B g s V) : w.cell? ⟨g, 4, none⟩ = some (V .level) := h.field 4 rfl
theorem Srch.f_reason (h : Srch w B g s V) : w.cell? ⟨g, 5, none⟩ = some (V .reason) := h.field 5 rfl
theorem Srch.f_active (h : Srch w B g s V) : w.cell? ⟨g, 6, none⟩ = some (V .active) := h.field 6 rfl
theorem Srch.f_trail (h : Srch w B g s V) : w.cell? ⟨g, 7, none⟩ = some (V .trail) := h.field 7 rfl
theorem Srch.f_marks (h : Srch w B g s V) : w.cell? ⟨g, 8, none⟩ = some (V .marks) := h.field 8 rfl
theorem Srch.f_head (h : Srch w B g s V) : w.cell? ⟨g, 9, none⟩ = some (.int .i64 s.head) := h.field 9 rfl
theorem Srch.f_proof (h : Srch w B g s V) : w.cell? ⟨g, 10, none⟩ = some (V .proof) := h.field 10 rfl
theorem cellEq {a : Addr} {v u : Value} (h : w.cell? a = some v) (e : v = u) : w.cell? a = some u := e ▸ h
theorem Srch.unfr (h : Srch w B g s V) (r : Role) {b n cap : Nat} (hv : V r = .slice (some ⟨b, 0, none⟩) n cap) (j : Nat) : w.frozen? ⟨b, j, none⟩ = false := by
  rcases (h.own r).2 with ⟨h0, _⟩ | ⟨q, cap', cur, hv', _, hh, _⟩
  · rw [hv] at h0; cases h0
  · rw [hv] at hv'
    injection hv' with h1 _ _
    injection h1 with h1
    injection h1 with h1
    subst h1
    exact blk_frozen hh j
theorem Srch.unfrozen (h : Srch w B g s V) (j : Nat) : w.frozen? ⟨g, j, none⟩ = false := blk_frozen h.obj j

/-- The shape of a slice that is not empty. -/
theorem Srch.form (h : Srch w B g s V) (r : Role) (hn : 0 < (C s V r).length) : ∃ b cap, V r = .slice (some ⟨b, 0, none⟩) (C s V r).length cap ∧ B ≤ b ∧ b < w.heap.size ∧ b ≠ g ∧ (C s V r).length ≤ cap ∧ cap ≤ 9223372036854775807 ∧ (∀ j, w.frozen? ⟨b, j, none⟩ = false) := by
  rcases (h.own r).2 with ⟨_, h0⟩ | ⟨q, cap, cur, hv, hb, hh, hc, hm, _, _⟩
  · omega
  · refine ⟨q, cap, hv, hb, (Array.getElem?_eq_some_iff.1 hh).1, fun e => h.gne r (by rw [hv, ← e]; rfl), hc, by simp only [maxLen] at hm; omega, fun j => blk_frozen hh j⟩
/-- The shape of any of its slices. -/
theorem Srch.slice (h : Srch w B g s V) (r : Role) : ∃ A cap, V r = .slice A (C s V r).length cap ∧ (C s V r).length ≤ cap ∧ cap ≤ maxLen := by
  rcases (h.own r).2 with ⟨hv, h0⟩ | ⟨q, cap, cur, hv, hb, hh, hc, hm, _, _⟩
  · exact ⟨none, 0, by rw [hv, h0], by omega, by simp [maxLen]⟩
  · exact ⟨_, cap, hv, hc, hm⟩
theorem Srch.cell (h : Srch w B g s V) (r : Role) {b n cap : Nat} (hv : V r = .slice (some ⟨b, 0, none⟩) n cap) (j : Nat) {v : Value} (hj : (C s V r)[j]? = some v) : w.cell? ⟨b, j, none⟩ = some v := by
  have := (h.own r).cells (g := b) (by rw [hv]; rfl) j v hj
  rwa [add_plain] at this
end

theorem addr_add (b k j : Nat) : (⟨b, k, none⟩ : Addr).add j = ⟨b, k + j, none⟩ := by unfold Addr.add; split <;> simp_all
theorem cell_alloc {w : World} {a : Addr} {v : Value} (h : w.cell? a = some v) (o : Obj) : (w.alloc o).cell? a = some v := (World.cell?_of_block (w := w) (Below.heap_alloc w o a.block (World.block_lt_of_cell? w a h))).trans h
/-- Another value for a role. -/
def upd (V : Lay) (r : Role) (v : Value) : Lay := fun r' => if r' = r then v else V r'
theorem upd_self (V : Lay) (r : Role) (v : Value) : upd V r v r = v := by simp [upd]
theorem upd_ne (V : Lay) {r r' : Role} (v : Value) (h : r' ≠ r) : upd V r v r' = V r' := by simp [upd, h]

section
variable {w w' : World} {B g : Nat} {s s' : S} {V : Lay}

theorem setCell_heap_self {b : Nat} {cs : Array Value} {t : TypeId} (h : w.heap[b]? = some (.cells cs t (0, 0))) (i : Nat) (v : Value) :
    (w.setCell ⟨b, i, none⟩ v).heap[b]? = some (.cells (cs.setIfInBounds i v) t (0, 0)) := by
  simp [World.setCell, Array.getElem?_modify, h]
theorem setCell_size (a : Addr) (v : Value) : (w.setCell a v).heap.size = w.heap.size := by simp [World.setCell]

theorem ownsRow_set {e : TypeId} {n b cap : Nat} {v : Value} {xs : List Value} (h : w.ownsRow B e 1 v n xs) (hv : v = .slice (some ⟨b, 0, none⟩) n cap) (i : Nat) (hi : i < n) (x : Value) :
    (w.setCell ⟨b, i, none⟩ x).ownsRow B e 1 v n (xs.set i x) := by
  refine ⟨by simpa using h.1, ?_⟩
  rcases h.2 with ⟨hn, _⟩ | ⟨q, cap', cur, hq, hb, hh, hc, hm, hs, ht⟩
  · rw [hv] at hn; cases hn
  · rw [hv] at hq
    injection hq with h1 h2 h3
    injection h1 with h1
    injection h1 with h1
    subst h1; subst h3
    refine .inr ⟨b, cap, cur.setIfInBounds i x, hv, hb, setCell_heap_self hh i x, hc, hm, by simpa using hs, ?_⟩
    rw [Array.toList_setIfInBounds, ← ht, List.take_set]

theorem ownBlock_slice (b n cap : Nat) : (Value.slice (some ⟨b, 0, none⟩) n cap).ownBlock = some b := rfl

/-- A store into a row: which search it is then. -/
theorem Srch.store (h : Srch w B g s V) (r : Role) {b n cap i : Nat} (hv : V r = .slice (some ⟨b, 0, none⟩) n cap) (hi : i < n) (x : Value)
    (hC : ∀ r', C s' V r' = if r' = r then (C s V r).set i x else C s V r') (hs : cellsS s' V = cellsS s V)
    (hc : s'.clauses.length = s.clauses.length) (hw : s'.watch.length = s.watch.length) (hp : s'.proof.length = s.proof.length) :
    Srch (w.setCell ⟨b, i, none⟩ x) B g s' V ∧ Goes g V w V (w.setCell ⟨b, i, none⟩ x) := by
  have hn : n = (C s V r).length := by
    obtain ⟨A, c, e, _⟩ := h.slice r
    rw [hv] at e; injection e
  subst hn
  have hne : b ≠ g := fun e => h.gne r (by rw [hv, ← e]; rfl)
  refine ⟨⟨fun r' => ?_, h.inj, ?_, h.gB, h.gne, fun i hi => h.vc i (by omega), fun i hi => h.vw i (by omega), fun i hi => h.vp i (by omega)⟩, ⟨⟨rfl, rfl, rfl, by rw [setCell_size]; exact Nat.le_refl _, fun k _ hk => ?_⟩, fun k hk => .inl hk⟩⟩
  · rw [hC r']
    by_cases e : r' = r
    · subst e
      simp only [if_true, List.length_set]
      exact ownsRow_set (h.own r') hv i hi x
    · simp only [e, if_false]
      refine ownsRow_same (h.own r') fun k hk => Below.heap_setCell w _ x k ?_
      intro e'
      subst e'
      exact e (h.inj r' r _ hk (by rw [hv]; rfl))
  · rw [hs]
    rw [Below.heap_setCell w _ x g hne.symm]
    exact h.obj
  · exact Below.heap_setCell w _ x k fun e => hk (.inr ⟨r, by rw [hv, e]; rfl⟩)

/-- A store of a whole number into a field of the struct. -/
theorem Srch.storeField (h : Srch w B g s V) (j : Nat) (x : Value) (hs : cellsS s' V = (cellsS s V).setIfInBounds j x) (hC : ∀ r', C s' V r' = C s V r')
    (hc : s'.clauses.length = s.clauses.length) (hw : s'.watch.length = s.watch.length) (hp : s'.proof.length = s.proof.length) :
    Srch (w.setCell ⟨g, j, none⟩ x) B g s' V ∧ Goes g V w V (w.setCell ⟨g, j, none⟩ x) := by
  refine ⟨⟨fun r' => ?_, h.inj, ?_, h.gB, h.gne, fun i hi => h.vc i (by omega), fun i hi => h.vw i (by omega), fun i hi => h.vp i (by omega)⟩, ⟨⟨rfl, rfl, rfl, by rw [setCell_size]; exact Nat.le_refl _, fun k _ hk => ?_⟩, fun k hk => .inl hk⟩⟩
  · rw [hC r']
    exact ownsRow_same (h.own r') fun k hk => Below.heap_setCell w _ x k fun e => h.gne r' (by rw [hk]; rw [e])
  · rw [hs]
    exact setCell_heap_self h.obj j x
  · exact Below.heap_setCell w _ x k fun e => hk (.inl e)

/-- A row takes another value (behind an append to it, or a reslicing), and the struct's field that holds it is stored. 'w1' is the world behind the append. -/
theorem Srch.turn {w1 : World} (h : Srch w B g s V) (r : Role) (j : Nat) (v1 : Value) (xs : List Value) (hown : w1.ownsRow B (ty r) 1 v1 xs.length xs)
    (hg : Fr (fun k => (V r).ownBlock = some k) w w1) (hat : v1.ownBlock = none ∨ v1.ownBlock = (V r).ownBlock ∨ ∃ b, v1.ownBlock = some b ∧ w.heap.size ≤ b)
    (hs : cellsS s' (upd V r v1) = (cellsS s V).setIfInBounds j v1) (hC : ∀ r', r' ≠ r → C s' (upd V r v1) r' = C s V r') (hCr : C s' (upd V r v1) r = xs)
    (hc : s'.clauses.length = s.clauses.length) (hw : s'.watch.length = s.watch.length) (hp : s'.proof.length = s.proof.length)
    (hr : ∀ i, r ≠ .clause i ∧ r ≠ .wrow i ∧ r ≠ .prow i) :
    Srch (w1.setCell ⟨g, j, none⟩ v1) B g s' (upd V r v1) ∧ Goes g V w (upd V r v1) (w1.setCell ⟨g, j, none⟩ v1) := by
  have hlt := h.lt (k := g) (.inl rfl)
  have hgr : ¬ (V r).ownBlock = some g := h.gne r
  have hobj : w1.heap[g]? = some (.cells (cellsS s V) 67 (0, 0)) := (hg.block g hlt hgr).trans h.obj
  have hv1 : v1.ownBlock ≠ some g := by
    rcases hat with e | e | ⟨b, e, hb⟩
    · rw [e]; simp
    · rw [e]; exact hgr
    · rw [e]; intro e'; injection e' with e'; omega
  have hne : ∀ r', r' ≠ r → ∀ k, (V r').ownBlock = some k → v1.ownBlock ≠ some k := by
    intro r' hr' k hk e'
    rcases hat with e | e | ⟨b, e, hb⟩
    · rw [e] at e'; cases e'
    · rw [e] at e'; exact hr' (h.inj r' r k hk e')
    · have := h.lt (k := k) (.inr ⟨r', hk⟩)
      rw [e] at e'; injection e' with e'; omega
  refine ⟨⟨fun r' => ?_, fun r1 r2 k h1 h2 => ?_, ?_, h.gB, fun r' => ?_, fun i hi => ?_, fun i hi => ?_, fun i hi => ?_⟩, ⟨⟨hg.os, hg.tape, hg.output, by rw [setCell_size]; exact hg.size, fun k hk hn => ?_⟩, fun k hk => ?_⟩⟩
  · by_cases e : r' = r
    · subst e
      rw [hCr, upd_self]
      exact ownsRow_same hown fun k hk => Below.heap_setCell w1 _ _ k fun e' => hv1 (by rw [hk]; rw [e'])
    · rw [hC r' e, upd_ne V v1 e]
      refine ownsRow_same (h.own r') fun k hk => (Below.heap_setCell w1 _ _ k fun e' => h.gne r' (by rw [hk]; rw [e'])).trans (hg.block k (h.lt (.inr ⟨r', hk⟩)) fun e' => e (h.inj r' r k hk e'))
  · by_cases e1 : r1 = r <;> by_cases e2 : r2 = r
    · rw [e1, e2]
    · subst e1
      rw [upd_self] at h1
      rw [upd_ne V v1 e2] at h2
      exact absurd h1 (hne r2 e2 k h2)
    · subst e2
      rw [upd_self] at h2
      rw [upd_ne V v1 e1] at h1
      exact absurd h2 (hne r1 e1 k h1)
    · rw [upd_ne V v1 e1] at h1
      rw [upd_ne V v1 e2] at h2
      exact h.inj r1 r2 k h1 h2
  · rw [hs]
    exact setCell_heap_self hobj j v1
  · by_cases e : r' = r
    · subst e; rw [upd_self]; exact hv1
    · rw [upd_ne V v1 e]; exact h.gne r'
  · rw [upd_ne V v1 (hr i).1.symm]; exact h.vc i (by omega)
  · rw [upd_ne V v1 (hr i).2.1.symm]; exact h.vw i (by omega)
  · rw [upd_ne V v1 (hr i).2.2.symm]; exact h.vp i (by omega)
  · rw [Below.heap_setCell w1 _ _ k fun e => hn (.inl e)]
    exact hg.block k hk fun e => hn (.inr ⟨r, e⟩)
  · rcases hk with rfl | ⟨r', hk⟩
    · exact .inl (.inl rfl)
    · by_cases e : r' = r
      · subst e
        rw [upd_self] at hk
        rcases hat with e | e | ⟨b, e, hb⟩
        · rw [e] at hk; cases hk
        · rw [e] at hk; exact .inl (.inr ⟨r', hk⟩)
        · rw [e] at hk; injection hk with hk; exact .inr (hk ▸ hb)
      · rw [upd_ne V v1 e] at hk; exact .inl (.inr ⟨r', hk⟩)
end
end Go.Proofs.Ytcahhbcehnbdkaa.Sv

/- A small engine for walks: a frame as a list of pairs (the newest first), one lemma for one operation. Nothing of the program stands here. -/
namespace Go.Proofs.Ytcahhbcehnbdkaa.Eng
open Go.RowKit Go.Proofs.YtcahhbcehnbdkaaW.PrintWords Go.Proofs.YtcahhbcehnbdkaaW.PrintLast

abbrev Env := List (Nat × Value)
def Env.get : Env → Nat → Option Value
  | [], _ => none
  | (t, v) :: e, s => bif Nat.beq t s then some v else Env.get e s
def ev (ρ : Env) : Operand → Option Value
  | .tmp t => ρ.get t
  | .const v => some v
  | .global g => some (.pointer (some ⟨g, 0, none⟩))
  | .func f => some (.func (.func f) #[] #[])
def evs (ρ : Env) : List Operand → Option (List Value)
  | [] => some []
  | x :: l => match ev ρ x, evs ρ l with
    | some v, some vs => some (v :: vs)
    | _, _ => none

def Fit (a : Act) (ρ : Env) : Prop := ∀ t v, ρ.get t = some v → a.tmps.getD t undef = v
structure Fits (N : Nat) (a : Act) (ρ : Env) : Prop where
  size : a.tmps.size = N
  fit : Fit a ρ
  dfr : a.defers = []

theorem Fit.ev {a : Act} {ρ : Env} (h : Fit a ρ) {x : Operand} {v : Value} (hx : ev ρ x = some v) : a.eval x = v := by
  cases x with
  | tmp t => exact h t v hx
  | const u => exact Option.some.inj hx
  | global g => exact Option.some.inj hx
  | func f => exact Option.some.inj hx
theorem Fit.evs {a : Act} {ρ : Env} (h : Fit a ρ) : ∀ {l : List Operand} {vs : List Value}, evs ρ l = some vs → l.map a.eval = vs
  | [], vs, e => by simp only [Eng.evs, Option.some.injEq] at e; subst e; rfl
  | x :: l, vs, e => by
    simp only [Eng.evs] at e
    cases h1 : Eng.ev ρ x with
    | none => rw [h1] at e; simp at e
    | some v =>
      cases h2 : Eng.evs ρ l with
      | none => rw [h1, h2] at e; simp at e
      | some us =>
        rw [h1, h2] at e
        simp only [Option.some.injEq] at e
        subst e
        rw [List.map_cons, h.ev h1, Fit.evs h h2]

theorem Env.get_cons (t : Nat) (v : Value) (ρ : Env) (s : Nat) : Env.get ((t, v) :: ρ) s = if t = s then some v else ρ.get s := by
  show (bif Nat.beq t s then some v else ρ.get s) = _
  by_cases h : t = s
  · subst h; simp
  · have : Nat.beq t s = false := by
      cases hb : Nat.beq t s with
      | false => rfl
      | true => exact absurd (Nat.eq_of_beq_eq_true hb) h
    simp [this, h]

theorem Fits.put {N d : Nat} {a : Act} {ρ : Env} {v : Value} (h : Fits N a ρ) (hd' : Nat.blt d N = true) : Fits N (a.put (some d) v) ((d, v) :: ρ) := by
  have hd : d < N := by have : d + 1 ≤ N := by simpa [Nat.blt] using hd'
                        omega
  refine ⟨by simp [Act.put, h.size], fun t u ht => ?_, h.dfr⟩
  rw [Env.get_cons] at ht
  have hs : d < a.tmps.size := by rw [h.size]; exact hd
  by_cases e : d = t
  · subst e
    simp only [if_true, Option.some.injEq] at ht
    subst ht
    simp [Act.put, Array.getD_eq_getD_getElem?, Array.getElem?_setIfInBounds_self, hs]
  · rw [if_neg e] at ht
    have := h.fit t u ht
    simpa [Act.put, Array.getD_eq_getD_getElem?, Array.getElem?_setIfInBounds_ne e] using this
theorem Fits.put_none {N : Nat} {a : Act} {ρ : Env} {v : Value} (h : Fits N a ρ) : Fits N (a.put none v) ρ := h

/-- Each of these is in the frame. -/
def Sub : Env → Env → Prop
  | [], _ => True
  | (t, v) :: e, ρ => ρ.get t = some v ∧ Sub e ρ
theorem Sub.get : ∀ {e ρ : Env}, Sub e ρ → ∀ t v, e.get t = some v → ρ.get t = some v
  | [], _, _, t, v, h => by simp [Env.get] at h
  | (t', v') :: e, ρ, hs, t, v, h => by
    rw [Env.get_cons] at h
    by_cases c : t' = t
    · rw [if_pos c] at h; cases h; subst c; exact hs.1
    · rw [if_neg c] at h; exact Sub.get hs.2 t v h
theorem Fits.sub {N : Nat} {a : Act} {e ρ : Env} (h : Fits N a ρ) (hs : Sub e ρ) : Fits N a e := ⟨h.size, fun t v ht => h.fit t v (hs.get t v ht), h.dfr⟩

def lift (N : Nat) (Q : Exit → Env → World → Prop) : Exit → Act → World → Prop
  | .panic c, a, w => a.defers = [] ∧ Q (.panic c) [] w
  | e, a, w => ∃ ρ, Fits N a ρ ∧ Q e ρ w
def thn (K : Env → World → Prop) (Q : Exit → Env → World → Prop) : Exit → Env → World → Prop
  | .normal, ρ, w => K ρ w
  | e, ρ, w => Q e ρ w
def blk (id : Nat) (Q : Exit → Env → World → Prop) : Exit → Env → World → Prop
  | .exit id', ρ, w => if id' = id then Q .normal ρ w else Q (.exit id') ρ w
  | e, ρ, w => Q e ρ w

def FC (P : Program) (N : Nat) (c : Code) (Q : Exit → Env → World → Prop) (ρ : Env) (w : World) : Prop := ∀ a, Fits N a ρ → c.wp P (lift N Q) a w
def FL (P : Program) (N : Nat) (ops : Array Oper) (Q : Exit → Env → World → Prop) (rest : List Oper) (ρ : Env) (w : World) : Prop := ∀ a, Fits N a ρ → wpList P ops (lift N Q) rest a w

section
variable {P : Program} {N : Nat} {Q : Exit → Env → World → Prop} {ρ : Env} {w : World}

theorem lift_mono {Q' : Exit → Env → World → Prop} (h : ∀ e ρ w, Q e ρ w → Q' e ρ w) : ∀ e a w, lift N Q e a w → lift N Q' e a w
  | .panic c, _, w, ⟨h1, h2⟩ => ⟨h1, h _ _ _ h2⟩
  | .normal, _, w, ⟨ρ, h1, h2⟩ => ⟨ρ, h1, h _ _ _ h2⟩
  | .exit _, _, w, ⟨ρ, h1, h2⟩ => ⟨ρ, h1, h _ _ _ h2⟩
  | .goto _, _, w, ⟨ρ, h1, h2⟩ => ⟨ρ, h1, h _ _ _ h2⟩
  | .ret, _, w, ⟨ρ, h1, h2⟩ => ⟨ρ, h1, h _ _ _ h2⟩
  | .outgrown, _, w, ⟨ρ, h1, h2⟩ => ⟨ρ, h1, h _ _ _ h2⟩
theorem FC.mono {c : Code} {Q' : Exit → Env → World → Prop} (h : FC P N c Q ρ w) (hq : ∀ e ρ w, Q e ρ w → Q' e ρ w) : FC P N c Q' ρ w :=
  fun a ha => wp_mono (h a ha) (lift_mono hq)
theorem FC.sub {c : Code} (e : Env) (hs : Sub e ρ) (h : FC P N c Q e w) : FC P N c Q ρ w := fun a ha => h a (ha.sub hs)
theorem FL.sub {ops : Array Oper} {rest : List Oper} (e : Env) (hs : Sub e ρ) (h : FL P N ops Q rest e w) : FL P N ops Q rest ρ w := fun a ha => h a (ha.sub hs)

theorem FC.seq {x y : Code} (h : FC P N x (thn (FC P N y Q) Q) ρ w) : FC P N (x.seq y) Q ρ w := fun a ha => by
  apply wp_seq
  refine wp_mono (h a ha) ?_
  intro e a w hq
  cases e with
  | normal => obtain ⟨ρ', hf, hk⟩ := hq; exact hk a hf
  | _ => exact hq
theorem FC.skip (h : Q .normal ρ w) : FC P N .skip Q ρ w := fun a ha => wp_skip ⟨ρ, ha, h⟩
theorem FC.label {l : Nat} (h : Q .normal ρ w) : FC P N (.label l) Q ρ w := fun a ha => wp_label ⟨ρ, ha, h⟩
theorem FC.exit {id : Nat} (h : Q (.exit id) ρ w) : FC P N (.exit id) Q ρ w := fun a ha => wp_exit ⟨ρ, ha, h⟩
/-- Where ways meet again, or a world is to be forgotten. -/
theorem FC.cut {σ : Type} {x y : Code} (env : σ → Env) (R : σ → World → Prop) (hx : FC P N x (thn (fun ρ w => ∃ s, Sub (env s) ρ ∧ R s w) Q) ρ w) (hy : ∀ s w, R s w → FC P N y Q (env s) w) : FC P N (x.seq y) Q ρ w :=
  FC.seq (hx.mono fun e ρ w hq => by
    cases e with
    | normal => obtain ⟨s, hs, hr⟩ := hq; exact FC.sub _ hs (hy s w hr)
    | _ => exact hq)
theorem FC.ret (h : Q .ret ρ w) : FC P N .ret Q ρ w := fun a ha => wp_ret ⟨ρ, ha, h⟩
theorem FC.cond_t {c : Operand} {x y : Code} (hc : ev ρ c = some (.bool true)) (h : FC P N x Q ρ w) : FC P N (.cond c x y) Q ρ w := fun a ha => wp_cond_true (ha.fit.ev hc) (h a ha)
theorem FC.cond_f {c : Operand} {x y : Code} (hc : ev ρ c = some (.bool false)) (h : FC P N y Q ρ w) : FC P N (.cond c x y) Q ρ w := fun a ha => wp_cond_false (ha.fit.ev hc) (h a ha)
theorem FC.cond {c : Operand} {x y : Code} (b : Bool) (hc : ev ρ c = some (.bool b)) (h1 : b = true → FC P N x Q ρ w) (h2 : b = false → FC P N y Q ρ w) : FC P N (.cond c x y) Q ρ w := by
  cases b
  · exact FC.cond_f hc (h2 rfl)
  · exact FC.cond_t hc (h1 rfl)
theorem FC.block {id : Nat} {c : Code} (h : FC P N c (blk id Q) ρ w) : FC P N (.block id c) Q ρ w := fun a ha => by
  apply wp_block
  refine wp_mono (h a ha) ?_
  intro e a w hq
  cases e with
  | exit id' =>
    obtain ⟨ρ', hf, hk⟩ := hq
    simp only [blk] at hk
    simp only [Exit.inBlock]
    by_cases hid : id' = id
    · rw [if_pos hid] at hk ⊢; exact ⟨ρ', hf, hk⟩
    · rw [if_neg hid] at hk ⊢; exact ⟨ρ', hf, hk⟩
  | _ => exact hq

def nog (Q : Exit → Env → World → Prop) : Exit → Env → World → Prop
  | .goto _, _, _ => False
  | e, ρ, w => Q e ρ w
theorem FC.scope {c : Code} (h : FC P N c (nog Q) ρ w) : FC P N (.scope c) Q ρ w := fun a ha => by
  apply wp_scope_straight
  refine wp_mono (h a ha) ?_
  intro e a w hq
  cases e with
  | goto l => obtain ⟨_, _, hk⟩ := hq; exact hk
  | _ => exact hq
theorem FC.region {id : Nat} {l : List Oper} (h : FL P N l.toArray Q l ρ w) : FC P N (.region id l.toArray false) Q ρ w := fun a ha => wp_region_lit (h a ha)

/-- A loop: what is carried is of a type of one's own. -/
theorem FC.loop {σ : Type} {c : Code} (env : σ → Env) (I : σ → World → Prop) (μ : σ → Nat) (x0 : σ) (h0 : I x0 w) (hs : Sub (env x0) ρ)
    (round : ∀ x w, I x w → FC P N c (thn (fun ρ' w' => ∃ x', Sub (env x') ρ' ∧ I x' w' ∧ μ x' < μ x) Q) (env x) w) : FC P N (.loop c) Q ρ w := fun a ha => by
  refine wp_loop_ghost (fun n a w => ∃ x, Fits N a (env x) ∧ I x w ∧ μ x = n) (μ x0) ⟨x0, ha.sub hs, h0, rfl⟩ ?_
  rintro n a w ⟨x, hf, hI, rfl⟩
  refine wp_mono (round x w hI a hf) ?_
  intro e a' w' hq
  cases e with
  | normal =>
    obtain ⟨ρ', hf', x', hs', hI', hlt⟩ := hq
    exact ⟨μ x', hlt, x', hf'.sub hs', hI', rfl⟩
  | _ => exact hq
end

section
variable {K : Env → World → Prop} {Q : Exit → Env → World → Prop} {ρ : Env} {w : World} {id : Nat}
theorem thn_ret (h : Q .ret ρ w) : thn K Q .ret ρ w := h
theorem thn_exit {i : Nat} (h : Q (.exit i) ρ w) : thn K Q (.exit i) ρ w := h
theorem thn_normal (h : K ρ w) : thn K Q .normal ρ w := h
theorem nog_ret (h : Q .ret ρ w) : nog Q .ret ρ w := h
theorem nog_normal (h : Q .normal ρ w) : nog Q .normal ρ w := h
theorem nog_exit {i : Nat} (h : Q (.exit i) ρ w) : nog Q (.exit i) ρ w := h
theorem blk_ret (h : Q .ret ρ w) : blk id Q .ret ρ w := h
theorem blk_normal (h : Q .normal ρ w) : blk id Q .normal ρ w := h
theorem blk_exit (h : Q .normal ρ w) : blk id Q (.exit id) ρ w := by show (if id = id then _ else _); rw [if_pos rfl]; exact h
theorem blk_pass {i : Nat} (hne : Nat.beq i id = false) (h : Q (.exit i) ρ w) : blk id Q (.exit i) ρ w := by
  show (if i = id then _ else _)
  rw [if_neg (fun e => by subst e; simp at hne)]
  exact h
end

/-! ### Operations -/
section
variable {P : Program} {ρ : Env}
def Val (P : Program) (ρ : Env) (o : Oper) (w : World) (v : Value) (w' : World) : Prop := ∀ a, Fit a ρ → (execOp a.eval o).run P w = .ok (.value v) w'
def Pur (P : Program) (ρ : Env) (o : Oper) (v : Value) : Prop := ∀ w, Val P ρ o w v w
def Sto (P : Program) (ρ : Env) (o : Oper) (w w' : World) : Prop := ∀ a, Fit a ρ → (execOp a.eval o).run P w = .ok .skip w'
def Cal (P : Program) (ρ : Env) (o : Oper) (w : World) (f : FuncId) (args : Array Value) : Prop := ∀ a, Fit a ρ → (execOp a.eval o).run P w = .ok (.enter f args) w

def wantB (ops : Array Oper) (ρ : Env) : Option (Nat × Bool) → Option Bool
  | none => some true
  | some (j, want) => match (ops[j]?).bind (·.dst) with
    | some d => match ρ.get d with
      | some (.bool b) => some (b == want)
      | some (.tuple _) => some false
      | _ => none
    | none => none
theorem wantB_spec {ops : Array Oper} {a : Act} (h : Fit a ρ) {o : Oper} {b : Bool} (hw : wantB ops ρ o.guard = some b) : Region.wanted o (yielded ops a.tmps) = b := by
  unfold Region.wanted
  cases hg : o.guard with
  | none => rw [hg] at hw; simpa [wantB] using hw
  | some jw =>
    obtain ⟨j, want⟩ := jw
    rw [hg] at hw
    simp only [wantB] at hw
    cases hd : (ops[j]?).bind (·.dst) with
    | none => rw [hd] at hw; simp at hw
    | some d =>
      rw [hd] at hw
      simp only at hw
      cases hv : ρ.get d with
      | none => rw [hv] at hw; simp at hw
      | some v =>
        rw [hv] at hw
        cases v with
        | bool c =>
          simp only [Option.some.injEq] at hw
          have hf := h d _ hv
          have hlt : d < a.tmps.size := by
            rcases Nat.lt_or_ge d a.tmps.size with h1 | h1
            · exact h1
            · simp [Array.getD_eq_getD_getElem?, Array.getElem?_eq_none h1, undef] at hf
          have hy : yielded ops a.tmps j = some c := by
            unfold yielded
            rw [hd]
            simp only [Option.bind_some]
            have : a.tmps[d]? = some (.bool c) := by
              rw [Array.getElem?_eq_getElem hlt]
              simp [Array.getD_eq_getD_getElem?, Array.getElem?_eq_getElem hlt] at hf
              rw [hf]
            rw [this]
          simp only [hy]
          subst hw
          rfl
        | tuple vs =>
          simp only [Option.some.injEq] at hw
          subst hw
          have hf := h d _ hv
          have hy : yielded ops a.tmps j = none := by
            unfold yielded
            rw [hd]
            simp only [Option.bind_some]
            cases ht : a.tmps[d]? with
            | none => rfl
            | some x =>
              have : x = .tuple vs := by simpa [Array.getD_eq_getD_getElem?, ht] using hf
              subst this
              rfl
          simp only [hy]
          rfl
        | _ => simp at hw
end

section
variable {P : Program} {N : Nat} {ops : Array Oper} {Q : Exit → Env → World → Prop} {ρ : Env} {w w' : World} {rest : List Oper}

theorem FL.nilK {K : Env → World → Prop} (h : K ρ w) : FL P N ops (thn K Q) [] ρ w := fun a ha => wpList_nil ⟨ρ, ha, h⟩
theorem FL.nil (h : Q .normal ρ w) : FL P N ops Q [] ρ w := fun a ha => wpList_nil ⟨ρ, ha, h⟩

theorem FL.val {d : Nat} {op : Op} {ty : TypeId} {pos : String} {af : Array Edge} {g : Option (Nat × Bool)} (v : Value) (w' : World) (hw : wantB ops ρ g = some true) (hd : Nat.blt d N = true)
    (hp : Val P ρ ⟨some d, op, ty, pos, af, g⟩ w v w') (h : FL P N ops Q rest ((d, v) :: ρ) w') : FL P N ops Q (⟨some d, op, ty, pos, af, g⟩ :: rest) ρ w := fun a ha => by
  unfold wpList
  rw [if_pos (wantB_spec ha.fit hw)]
  refine .inl ?_
  unfold Oper.wp
  rw [hp a ha.fit]
  exact h _ (ha.put hd)
theorem FL.pur {d : Nat} {op : Op} {ty : TypeId} {pos : String} {af : Array Edge} {g : Option (Nat × Bool)} {v : Value} (hw : wantB ops ρ g = some true) (hd : Nat.blt d N = true)
    (hp : Pur P ρ ⟨some d, op, ty, pos, af, g⟩ v) (h : FL P N ops Q rest ((d, v) :: ρ) w) : FL P N ops Q (⟨some d, op, ty, pos, af, g⟩ :: rest) ρ w := FL.val v w hw hd (hp w) h
theorem FL.off {d : Nat} {op : Op} {ty : TypeId} {pos : String} {af : Array Edge} {g : Option (Nat × Bool)} (hw : wantB ops ρ g = some false) (hd : Nat.blt d N = true)
    (h : FL P N ops Q rest ((d, undef) :: ρ) w) : FL P N ops Q (⟨some d, op, ty, pos, af, g⟩ :: rest) ρ w := fun a ha => by
  unfold wpList
  rw [if_neg (by rw [wantB_spec ha.fit hw]; simp)]
  exact h _ (ha.put hd)
theorem FL.sto {op : Op} {ty : TypeId} {pos : String} {af : Array Edge} {g : Option (Nat × Bool)} (w' : World) (hw : wantB ops ρ g = some true)
    (hp : Sto P ρ ⟨none, op, ty, pos, af, g⟩ w w') (h : FL P N ops Q rest ρ w') : FL P N ops Q (⟨none, op, ty, pos, af, g⟩ :: rest) ρ w := fun a ha => by
  unfold wpList
  rw [if_pos (wantB_spec ha.fit hw)]
  refine .inl ?_
  unfold Oper.wp
  rw [hp a ha.fit]
  exact h _ ha.put_none
/-- The world behind an operation goes by what is known of it. -/
theorem FL.valG {d : Nat} {op : Op} {ty : TypeId} {pos : String} {af : Array Edge} {g : Option (Nat × Bool)} (R : Value → World → Prop) (hw : wantB ops ρ g = some true) (hd : Nat.blt d N = true)
    (hp : ∃ v w', Val P ρ ⟨some d, op, ty, pos, af, g⟩ w v w' ∧ R v w') (h : ∀ v w', R v w' → FL P N ops Q rest ((d, v) :: ρ) w') : FL P N ops Q (⟨some d, op, ty, pos, af, g⟩ :: rest) ρ w := by
  obtain ⟨v, w', h1, h2⟩ := hp
  exact FL.val v w' hw hd h1 (h v w' h2)
theorem FL.stoG {op : Op} {ty : TypeId} {pos : String} {af : Array Edge} {g : Option (Nat × Bool)} (R : World → Prop) (hw : wantB ops ρ g = some true)
    {w' : World} (hp : Sto P ρ ⟨none, op, ty, pos, af, g⟩ w w') (hR : R w') (h : ∀ w', R w' → FL P N ops Q rest ρ w') : FL P N ops Q (⟨none, op, ty, pos, af, g⟩ :: rest) ρ w := FL.sto w' hw hp (h _ hR)
theorem FL.call {d : Nat} {op : Op} {ty : TypeId} {pos : String} {af : Array Edge} {g : Option (Nat × Bool)} {f : FuncId} {args : Array Value} {R : Ending → World → Prop} (hw : wantB ops ρ g = some true) (hd : Nat.blt d N = true)
    (hp : Cal P ρ ⟨some d, op, ty, pos, af, g⟩ w f args) (hc : Calls P f args w R) (h : ∀ e w', R e w' → ∃ v, e = .returned v ∧ FL P N ops Q rest ((d, v) :: ρ) w') :
    FL P N ops Q (⟨some d, op, ty, pos, af, g⟩ :: rest) ρ w := fun a ha => by
  unfold wpList
  rw [if_pos (wantB_spec ha.fit hw)]
  refine .inl ?_
  unfold Oper.wp
  rw [hp a ha.fit]
  refine Calls.mono hc ?_
  intro e w' hR
  obtain ⟨v, rfl, hk⟩ := h e w' hR
  exact hk _ (ha.put hd)
end

/-! ### Regions that draw their order -/
def FA (P : Program) (N : Nat) (ops : Array Oper) (Q : Exit → Env → World → Prop) (S : World → Prop) (ds : List Nat) (fuel : Nat) (l : Array Bool) (ρ : Env) (w : World) : Prop :=
  ∀ a, Fits N a ρ → wpAnyLast P .any ops (lift N Q) S ds fuel l a w
section
variable {P : Program} {N : Nat} {ops : Array Oper} {Q : Exit → Env → World → Prop} {S : World → Prop} {ds : List Nat} {fuel : Nat} {l : Array Bool} {ρ : Env} {w w' : World}

theorem FC.draw {id n : Nat} (S : World → Prop) (ds : List Nat) (l : Array Bool) (hm : P.follows .mixedOrders = true) (hn : ops.size = n) (hl : Array.replicate n false = l) (hS : S w.drew)
    (h : FA P N ops Q S ds n l ρ w.drew) : FC P N (.region id ops true) Q ρ w := fun a ha => start_ l hm hn hl hS fun _ => h a ha
theorem lift_put {c : List PanicEntry} {a : Act} {d : Option Tmp} {v : Value} {w : World} (h : lift N Q (.panic c) (a.put d v) w) : lift N Q (.panic c) a w := by
  cases d <;> exact h
theorem FA.pur {i d : Nat} {op : Op} {ty : TypeId} {pos : String} {af : Array Edge} {g : Option (Nat × Bool)} {v : Value} (l' : Array Bool) (hi : ops[i]? = some ⟨some d, op, ty, pos, af, g⟩) (hc : anyB .any ops l l' i = true)
    (hw : wantB ops ρ g = some true) (hd : Nat.blt d N = true) (hp : Pur P ρ ⟨some d, op, ty, pos, af, g⟩ v) (h : FA P N ops Q S ds fuel l' ((d, v) :: ρ) w) : FA P N ops Q S ds (fuel + 1) l ρ w := fun a ha =>
  pure_ l' hi rfl hc (fun _ _ _ => lift_put) (.inl ⟨wantB_spec ha.fit hw, fun w => hp w a ha.fit⟩) rfl (h _ (ha.put hd))
theorem FA.off {i d : Nat} {op : Op} {ty : TypeId} {pos : String} {af : Array Edge} {g : Option (Nat × Bool)} (l' : Array Bool) (hi : ops[i]? = some ⟨some d, op, ty, pos, af, g⟩) (hc : anyB .any ops l l' i = true)
    (hw : wantB ops ρ g = some false) (hd : Nat.blt d N = true) (h : FA P N ops Q S ds fuel l' ((d, undef) :: ρ) w) : FA P N ops Q S ds (fuel + 1) l ρ w := fun a ha =>
  pure_ l' hi rfl hc (fun _ _ _ => lift_put) (.inr ⟨wantB_spec ha.fit hw, rfl⟩) rfl (h _ (ha.put hd))
theorem FA.lod {i d : Nat} {op : Op} {ty : TypeId} {pos : String} {af : Array Edge} {g : Option (Nat × Bool)} {v : Value} (l' : Array Bool) (hi : ops[i]? = some ⟨some d, op, ty, pos, af, g⟩) (hc : takeB .any ops ds l l' i = true)
    (hw : wantB ops ρ g = some true) (hd : Nat.blt d N = true) (hS : S w) (hp : ∀ w, S w → Val P ρ ⟨some d, op, ty, pos, af, g⟩ w v w) (h : FA P N ops Q S ds fuel l' ((d, v) :: ρ) w) : FA P N ops Q S ds (fuel + 1) l ρ w := fun a ha =>
  take_ l' hi rfl hc (fun _ _ _ => lift_put) (.inl ⟨wantB_spec ha.fit hw, fun w hs => hp w hs a ha.fit⟩) hS rfl (h _ (ha.put hd))
theorem FA.one {i d : Nat} {op : Op} {ty : TypeId} {pos : String} {af : Array Edge} {g : Option (Nat × Bool)} (v : Value) (w' : World) (l' : Array Bool) (hi : ops[i]? = some ⟨some d, op, ty, pos, af, g⟩) (hc : readyB .any ops l l' i = true) (hds : i ∉ ds)
    (hw : wantB ops ρ g = some true) (hd : Nat.blt d N = true) (hp : Val P ρ ⟨some d, op, ty, pos, af, g⟩ w v w') (hS : S w') (h : FA P N ops Q S ds fuel l' ((d, v) :: ρ) w') : FA P N ops Q S ds (fuel + 1) l ρ w := fun a ha =>
  one_ l' hi rfl hc hds fun K hK => by
    rw [if_pos (wantB_spec ha.fit hw)]
    unfold Oper.wp
    rw [hp a ha.fit]
    exact hK _ _ hS fun _ => h _ (ha.put hd)
theorem FA.oneC {i d : Nat} {op : Op} {ty : TypeId} {pos : String} {af : Array Edge} {g : Option (Nat × Bool)} {f : FuncId} {args : Array Value} {R : Ending → World → Prop} (l' : Array Bool) (hi : ops[i]? = some ⟨some d, op, ty, pos, af, g⟩) (hc : readyB .any ops l l' i = true) (hds : i ∉ ds)
    (hw : wantB ops ρ g = some true) (hd : Nat.blt d N = true) (hp : Cal P ρ ⟨some d, op, ty, pos, af, g⟩ w f args) (hcl : Calls P f args w R) (h : ∀ e w', R e w' → ∃ v, e = .returned v ∧ S w' ∧ FA P N ops Q S ds fuel l' ((d, v) :: ρ) w') : FA P N ops Q S ds (fuel + 1) l ρ w := fun a ha =>
  one_ l' hi rfl hc hds fun K hK => by
    rw [if_pos (wantB_spec ha.fit hw)]
    unfold Oper.wp
    rw [hp a ha.fit]
    refine Calls.mono hcl ?_
    intro e w' hR
    obtain ⟨v, rfl, hS, hk⟩ := h e w' hR
    exact hK _ _ hS fun _ => hk _ (ha.put hd)
theorem FA.oneS {i : Nat} {op : Op} {ty : TypeId} {pos : String} {af : Array Edge} {g : Option (Nat × Bool)} (w' : World) (l' : Array Bool) (hi : ops[i]? = some ⟨none, op, ty, pos, af, g⟩) (hc : readyB .any ops l l' i = true) (hds : i ∉ ds)
    (hw : wantB ops ρ g = some true) (hp : Sto P ρ ⟨none, op, ty, pos, af, g⟩ w w') (hS : S w') (h : FA P N ops Q S ds fuel l' ρ w') : FA P N ops Q S ds (fuel + 1) l ρ w := fun a ha =>
  one_ l' hi rfl hc hds fun K hK => by
    rw [if_pos (wantB_spec ha.fit hw)]
    unfold Oper.wp
    rw [hp a ha.fit]
    exact hK _ _ hS fun _ => h _ ha.put_none
theorem FA.last {i d : Nat} {op : Op} {ty : TypeId} {pos : String} {af : Array Edge} {g : Option (Nat × Bool)} (v : Value) (w' : World) (l' : Array Bool) (hi : ops[i]? = some ⟨some d, op, ty, pos, af, g⟩) (hc : readyB .any ops l l' i = true) (hds : i ∈ ds)
    (hw : wantB ops ρ g = some true) (hd : Nat.blt d N = true) (hp : Val P ρ ⟨some d, op, ty, pos, af, g⟩ w v w') (h : FA P N ops Q S ds fuel l' ((d, v) :: ρ) w') : FA P N ops Q S ds (fuel + 1) l ρ w := fun a ha =>
  last_ l' hi rfl hc hds fun K hK => by
    rw [if_pos (wantB_spec ha.fit hw)]
    unfold Oper.wp
    rw [hp a ha.fit]
    exact hK _ _ (h _ (ha.put hd))
theorem FA.lastC {i d : Nat} {op : Op} {ty : TypeId} {pos : String} {af : Array Edge} {g : Option (Nat × Bool)} {f : FuncId} {args : Array Value} {R : Ending → World → Prop} (l' : Array Bool) (hi : ops[i]? = some ⟨some d, op, ty, pos, af, g⟩) (hc : readyB .any ops l l' i = true) (hds : i ∈ ds)
    (hw : wantB ops ρ g = some true) (hd : Nat.blt d N = true) (hp : Cal P ρ ⟨some d, op, ty, pos, af, g⟩ w f args) (hcl : Calls P f args w R) (h : ∀ e w', R e w' → ∃ v, e = .returned v ∧ FA P N ops Q S ds fuel l' ((d, v) :: ρ) w') : FA P N ops Q S ds (fuel + 1) l ρ w := fun a ha =>
  last_ l' hi rfl hc hds fun K hK => by
    rw [if_pos (wantB_spec ha.fit hw)]
    unfold Oper.wp
    rw [hp a ha.fit]
    refine Calls.mono hcl ?_
    intro e w' hR
    obtain ⟨v, rfl, hk⟩ := h e w' hR
    exact hK _ _ (hk _ (ha.put hd))
theorem FA.lastG {i d : Nat} {op : Op} {ty : TypeId} {pos : String} {af : Array Edge} {g : Option (Nat × Bool)} (R : Value → World → Prop) (l' : Array Bool) (hi : ops[i]? = some ⟨some d, op, ty, pos, af, g⟩) (hc : readyB .any ops l l' i = true) (hds : i ∈ ds)
    (hw : wantB ops ρ g = some true) (hd : Nat.blt d N = true) (hp : ∃ v w', Val P ρ ⟨some d, op, ty, pos, af, g⟩ w v w' ∧ R v w') (h : ∀ v w', R v w' → FA P N ops Q S ds fuel l' ((d, v) :: ρ) w') : FA P N ops Q S ds (fuel + 1) l ρ w := by
  obtain ⟨v, w', h1, h2⟩ := hp
  exact FA.last v w' l' hi hc hds hw hd h1 (h v w' h2)
theorem FA.oneG {i d : Nat} {op : Op} {ty : TypeId} {pos : String} {af : Array Edge} {g : Option (Nat × Bool)} (R : Value → World → Prop) (l' : Array Bool) (hi : ops[i]? = some ⟨some d, op, ty, pos, af, g⟩) (hc : readyB .any ops l l' i = true) (hds : i ∉ ds)
    (hw : wantB ops ρ g = some true) (hd : Nat.blt d N = true) (hp : ∃ v w', Val P ρ ⟨some d, op, ty, pos, af, g⟩ w v w' ∧ R v w') (hS : ∀ v w', R v w' → S w') (h : ∀ v w', R v w' → FA P N ops Q S ds fuel l' ((d, v) :: ρ) w') : FA P N ops Q S ds (fuel + 1) l ρ w := by
  obtain ⟨v, w', h1, h2⟩ := hp
  exact FA.one v w' l' hi hc hds hw hd h1 (hS v w' h2) (h v w' h2)
theorem FA.lastS {i : Nat} {op : Op} {ty : TypeId} {pos : String} {af : Array Edge} {g : Option (Nat × Bool)} (w' : World) (l' : Array Bool) (hi : ops[i]? = some ⟨none, op, ty, pos, af, g⟩) (hc : readyB .any ops l l' i = true) (hds : i ∈ ds)
    (hw : wantB ops ρ g = some true) (hp : Sto P ρ ⟨none, op, ty, pos, af, g⟩ w w') (h : FA P N ops Q S ds fuel l' ρ w') : FA P N ops Q S ds (fuel + 1) l ρ w := fun a ha =>
  last_ l' hi rfl hc hds fun K hK => by
    rw [if_pos (wantB_spec ha.fit hw)]
    unfold Oper.wp
    rw [hp a ha.fit]
    exact hK _ _ (h _ ha.put_none)
theorem FA.doneK {K : Env → World → Prop} (hr : (Region.ready .any ops l == []) = true) (h : K ρ w) : FA P N ops (thn K Q) S ds fuel l ρ w := fun a ha => done_ hr ⟨ρ, ha, h⟩
theorem FA.done (hr : (Region.ready .any ops l == []) = true) (h : Q .normal ρ w) : FA P N ops Q S ds fuel l ρ w := fun a ha => done_ hr ⟨ρ, ha, h⟩
end

/-! ### A call that only tells a value may be taken first -/
section
variable {P : Program} {ops : Array Oper} {S : World → Prop} {ds : List Nat}
def Tells (P : Program) (ops : Array Oper) (S : World → Prop) (o : Oper) (v : Value) (a : Act) : Prop :=
  Region.wanted o (yielded ops a.tmps) = true ∧ ∀ w, S w → ∃ f args, (execOp a.eval o).run P w = .ok (.enter f args) w ∧ Calls P f args w fun e w' => e = .returned v ∧ w = w'
theorem Tells.same {o : Oper} {v : Value} {a a' : Act} (h : Tells P ops S o v a) (he : execOp a'.eval o = execOp a.eval o) (hw : Region.wanted o (yielded ops a'.tmps) = Region.wanted o (yielded ops a.tmps)) : Tells P ops S o v a' :=
  ⟨hw.trans h.1, fun w hs => by rw [he]; exact h.2 w hs⟩
theorem Tells.op {Q : Exit → Act → World → Prop} {i : Nat} {o : Oper} {v : Value} {a : Act} (hi : ops[i]? = some o) (h : Tells P ops S o v a) {K : Act → World → Prop} {w : World} (hS : S w) (hk : K (a.put o.dst v) w) : wpOp P ops Q i K a w := by
  obtain ⟨f, args, hr, hc⟩ := h.2 w hS
  unfold wpOp
  rw [hi]
  show if _ then _ else _
  rw [if_pos h.1]
  refine .inl ?_
  unfold Oper.wp
  rw [hr]
  refine Calls.mono hc ?_
  rintro e w' ⟨rfl, rfl⟩
  exact hk
theorem Tells.past {Q : Exit → Act → World → Prop} {j : Nat} {oi oj : Oper} {v : Value} (hj : ops[j]? = some oj) (hap : oi.apart ops oj = true) (hsi : ∀ cs b, oi.op ≠ .select cs b) (hsj : ∀ cs b, oj.op ≠ .select cs b)
    (hQ : ∀ c a w, Q (.panic c) (a.put oi.dst v) w → Q (.panic c) a w) {K : Act → World → Prop} {a : Act} {w : World} (hy : Tells P ops S oi v a) (h : wpOp P ops Q j K (a.put oi.dst v) w) :
    wpOp P ops Q j (fun a' w' => Tells P ops S oi v a' ∧ K (a'.put oi.dst v) w') a w := by
  obtain ⟨q1, q2, q3⟩ := Oper.apart_spec hap
  have stays : ∀ b, Tells P ops S oi v b → ∀ u, Tells P ops S oi v (b.put oj.dst u) := fun b hb u => hb.same (execOp_put oi hsi b oj.dst u q3) (wanted_put oi b oj.dst u q3)
  have swap : ∀ (b : Act) u, (b.put oi.dst v).put oj.dst u = (b.put oj.dst u).put oi.dst v := fun b u => Act.put_comm b v u q2
  have hup : ∀ r, oj.upon P (a.put oi.dst v) K Q r → oj.upon P a (fun a' w' => Tells P ops S oi v a' ∧ K (a'.put oi.dst v) w') Q r := by
    intro r hr
    rcases r with ⟨n, w'⟩ | ⟨x, w'⟩
    · cases n with
      | value u => exact ⟨stays a hy u, by rw [← swap]; exact hr⟩
      | skip => exact ⟨stays a hy _, by rw [← swap]; exact hr⟩
      | defer d =>
        refine ⟨stays { a with defers := d :: a.defers } (hy.same rfl rfl) _, ?_⟩
        rw [← swap]
        rw [Oper.upon_defer, Act.put_defers] at hr
        exact hr
      | enter f args =>
        refine Calls.mono hr fun e w'' he => ?_
        cases e with
        | returned u => exact ⟨stays a hy u, by rw [← swap]; exact he⟩
        | panicked c => exact hQ _ _ _ he
        | outgrown => exact he
      | row row args => exact Rows.mono hr fun u w'' he => ⟨stays a hy u, by rw [← swap]; exact he⟩
      | _ => exact hr.elim
    · cases x with
      | panic u => exact hQ _ _ _ hr
      | _ => exact hr.elim
  unfold wpOp at h ⊢
  rw [hj] at h ⊢
  replace h : if Region.wanted oj (yielded ops (a.put oi.dst v).tmps) = true then oj.wp P (a.put oi.dst v) w K Q ∨ (oj.asks P (a.put oi.dst v) w ∧ LetsOut Q) else K ((a.put oi.dst v).put oj.dst undef) w := h
  show if _ then _ else _
  rw [wanted_put oj a oi.dst v q1] at h
  by_cases hw : Region.wanted oj (yielded ops a.tmps) = true
  · rw [if_pos hw] at h ⊢
    rcases h with h | ⟨h1, h2⟩
    · refine .inl ?_
      unfold Oper.wp at h ⊢
      rw [execOp_put oj hsj a oi.dst v q1] at h
      exact hup _ h
    · refine .inr ⟨?_, h2⟩
      unfold Oper.asks at h1 ⊢
      rw [execOp_put oj hsj a oi.dst v q1] at h1
      exact h1
  · rw [if_neg hw] at h ⊢
    exact ⟨stays a hy _, by rw [← swap]; exact h⟩

theorem Tells.first {Q : Exit → Act → World → Prop} {md : Region.Mode} {i : Nat} {oi : Oper} {v : Value} (hi : ops[i]? = some oi) (hsel : ∀ (j : Nat) (o : Oper) cs b, ops[j]? = some o → o.op ≠ .select cs b)
    (hQ : ∀ c a w, Q (.panic c) (a.put oi.dst v) w → Q (.panic c) a w) (n : Nat) :
    ∀ (fuel : Nat) (listed : Array Bool) (a : Act) (w : World),
      (∀ j oj, ops[j]? = some oj → j ≠ i → listed.getD j true = false → (∀ e ∈ oj.after, Region.binds md e = true → e.on ≠ i) → oi.apart ops oj = true) →
      ListedClosed md ops listed → (∀ d ∈ ds, listed.getD d true = false → Region.reachB md ops i n d = true) →
      i ∈ Region.ready md ops listed → Tells P ops S oi v a → S w →
      wpAnyLast P md ops Q S ds fuel (listed.setIfInBounds i true) (a.put oi.dst v) w → wpAnyLast P md ops Q S ds (fuel + 1) listed a w := by
  intro fuel
  induction fuel with
  | zero =>
    intro listed a w _ _ _ hr hy hS H
    refine ⟨fun h => absurd hr (by rw [h]; simp), fun j hj => ?_⟩
    by_cases hji : j = i
    · subst hji; exact hy.op hi hS ⟨fun _ h => h, H⟩
    · exact absurd (ready_mono hj hji) (by rw [H.1]; simp)
  | succ fuel ih =>
    intro listed a w hfree hc hd hr hy hS H
    refine ⟨fun h => absurd hr (by rw [h]; simp), fun j hj => ?_⟩
    by_cases hji : j = i
    · subst hji; exact hy.op hi hS ⟨fun _ h => h, H⟩
    · obtain ⟨hjun, oj, hoj, hall⟩ := mem_ready.1 hj
      have hiun := (mem_ready.1 hr).1
      have hnot : ∀ e ∈ oj.after, Region.binds md e = true → e.on ≠ i := fun e he hb heq => by
        have h1 := hall e he hb
        rw [heq] at h1
        by_cases h' : i < listed.size
        · simp [h'] at hiun h1; rw [hiun] at h1; cases h1
        · simp [Array.getElem?_eq_none (Nat.le_of_not_lt h')] at h1
      have hjd : j ∉ ds := fun hm => Region.reach_not_ready hc (hd j hm hjun) hiun hj
      have weak : ∀ k, (listed.setIfInBounds j true).getD k true = false → listed.getD k true = false := fun k hun => by
        by_cases hjk : j = k
        · subst hjk; exact hjun
        · rwa [getD_set_ne true hjk] at hun
      have h2 := Tells.past hoj (hfree j oj hoj hji hjun hnot) (fun cs b => hsel i oi cs b hi) (fun cs b => hsel j oj cs b hoj) hQ hy (H.2 j (ready_mono hj hji))
      refine wpOp_mono (fun a' w' h3 => ⟨h3.2.1, ih (listed.setIfInBounds j true) a' w' (fun k ok hk hki hun hno => hfree k ok hk hki (weak k hun) hno) (hc.set hj) (fun d hm hun => hd d hm (weak d hun)) (ready_mono hr (Ne.symm hji)) h3.1 (h3.2.1 hjd hS) ?_⟩) h2
      rw [Array.setIfInBounds_comm _ _ hji]
      exact h3.2.2
end
section
variable {P : Program} {N : Nat} {ops : Array Oper} {Q : Exit → Env → World → Prop} {S : World → Prop} {ds : List Nat} {fuel : Nat} {l : Array Bool} {ρ : Env} {w w' : World}
theorem FA.tell {i d : Nat} {op : Op} {ty : TypeId} {pos : String} {af : Array Edge} {g : Option (Nat × Bool)} {f : FuncId} {args : Array Value} {v : Value} (l' : Array Bool) (hi : ops[i]? = some ⟨some d, op, ty, pos, af, g⟩) (hc : takeB .any ops ds l l' i = true)
    (hw : wantB ops ρ g = some true) (hd : Nat.blt d N = true) (hS : S w) (hp : ∀ w, S w → Cal P ρ ⟨some d, op, ty, pos, af, g⟩ w f args) (hcl : ∀ w, S w → Calls P f args w fun e w' => e = .returned v ∧ w = w')
    (h : FA P N ops Q S ds fuel l' ((d, v) :: ρ) w) : FA P N ops Q S ds (fuel + 1) l ρ w := fun a ha => by
  simp only [takeB, Bool.and_eq_true, beq_iff_eq] at hc
  obtain ⟨⟨⟨⟨⟨h1, h2⟩, h3⟩, h4⟩, h5⟩, h6⟩ := hc
  subst h6
  exact Tells.first hi (Region.noSelect_spec h1) (fun _ _ _ => lift_put) ops.size fuel l a w (Region.free_spec hi h2) (Region.closedB_spec h4)
    (fun d hm hun => by have := List.all_eq_true.1 h5 d hm; rw [hun] at this; simpa using this) (by simpa using h3)
    ⟨wantB_spec ha.fit hw, fun w hs => ⟨f, args, hp w hs a ha.fit, hcl w hs⟩⟩ hS (h _ (ha.put hd))
end

/-! ### A call's own walk -/
def fpost (P : Program) (N : Nat) (fn : Func) (R : Ending → World → Prop) : Exit → Env → World → Prop
  | .normal, ρ, w | .ret, ρ, w => ∃ v, (∀ a, Fit a ρ → (results fn a.tmps).run P w = .ok v w) ∧ R (.returned v) w
  | .panic c, _, w => R (.panicked c) w
  | _, _, _ => False
def argEnv : Nat → List Value → Env
  | _, [] => []
  | k, v :: vs => (k, v) :: argEnv (k + 1) vs
theorem argEnv_get : ∀ (vs : List Value) (k t : Nat) (v : Value), (argEnv k vs).get t = some v → k ≤ t ∧ vs[t - k]? = some v
  | [], k, t, v, h => by simp [argEnv, Env.get] at h
  | u :: vs, k, t, v, h => by
    simp only [argEnv] at h
    rw [Env.get_cons] at h
    by_cases e : k = t
    · rw [if_pos e] at h; cases h; subst e; simp
    · rw [if_neg e] at h
      obtain ⟨h1, h2⟩ := argEnv_get vs (k + 1) t v h
      refine ⟨by omega, ?_⟩
      rw [show t - k = (t - (k + 1)) + 1 by omega, List.getElem?_cons_succ]
      exact h2
theorem calls_of_FC {P : Program} {f N : Nat} {fn : Func} {c : Code} {vs : List Value} {w : World} {R : Ending → World → Prop} (hf : P.funcs[f]? = some fn) (hb : fn.body = some c) (hN : fn.ntmps = N) (hv : vs.length ≤ N)
    (h : FC P N c (fpost P N fn R) (argEnv 0 vs) w) : Calls P f vs.toArray w R := by
  refine calls_of_wp hf hb ?_
  refine wp_mono (h _ ⟨?_, ?_, rfl⟩) ?_
  · simp [hN]; omega
  · intro t v ht
    obtain ⟨_, h2⟩ := argEnv_get vs 0 t v ht
    simp only [Nat.sub_zero] at h2
    have hlt : t < vs.length := (List.getElem?_eq_some_iff.1 h2).1
    have h3 : vs[t] = v := (List.getElem?_eq_some_iff.1 h2).2
    simp [Array.getD_eq_getD_getElem?, Array.getElem?_append, hlt, h3]
  · intro e a w hq
    cases e with
    | normal => obtain ⟨ρ, hfit, v, hr, hR⟩ := hq; exact ⟨hfit.dfr, v, hr a hfit.fit, hR⟩
    | ret => obtain ⟨ρ, hfit, v, hr, hR⟩ := hq; exact ⟨hfit.dfr, v, hr a hfit.fit, hR⟩
    | panic c => exact hq
    | exit id => obtain ⟨ρ, _, hk⟩ := hq; exact hk.elim
    | goto l => obtain ⟨ρ, _, hk⟩ := hq; exact hk.elim
    | outgrown => obtain ⟨ρ, _, hk⟩ := hq; exact hk.elim
section
variable {P : Program} {N : Nat} {fn : Func} {R : Ending → World → Prop} {ρ : Env} {w : World}
theorem ret0 (hr : fn.results = #[]) (h : R (.returned (.tuple #[])) w) : fpost P N fn R .ret ρ w := ⟨_, fun a _ => results_none hr _ _ _, h⟩
theorem end0 (hr : fn.results = #[]) (h : R (.returned (.tuple #[])) w) : fpost P N fn R .normal ρ w := ⟨_, fun a _ => results_none hr _ _ _, h⟩
theorem ret1 {t : Nat} (hr : fn.results = #[.tmp t]) {v : Value} (hv : ρ.get t = some v) (h : R (.returned v) w) : fpost P N fn R .ret ρ w :=
  ⟨v, fun a ha => by rw [results_tmp hr, ha t v hv], h⟩
theorem ret2 {t u : Nat} (hr : fn.results = #[.tmp t, .tmp u]) {v x : Value} (hv : ρ.get t = some v) (hx : ρ.get u = some x) (h : R (.returned (.tuple #[v, x])) w) : fpost P N fn R .ret ρ w :=
  ⟨_, fun a ha => by rw [results_tmp2 hr, ha t v hv, ha u x hx], h⟩
end
end Go.Proofs.Ytcahhbcehnbdkaa.Eng

/- One lemma for each kind of operation: what it yields on known operands. -/
namespace Go.Proofs.Ytcahhbcehnbdkaa.Eng
open Go.RowKit Go.Proofs.YtcahhbcehnbdkaaW.PrintWords Go.Proofs.YtcahhbcehnbdkaaW.PrintLast

section
variable {P : Program} {ρ : Env} {dst : Option Tmp} {ty : TypeId} {pos : String} {af : Array Edge} {g : Option (Nat × Bool)} {x y z : Operand} {t t' : TypeId}

theorem p_move {v : Value} (h : ev ρ x = some v) : Pur P ρ ⟨dst, .move x, ty, pos, af, g⟩ v := fun w a ha => by
  simp [execOp, ha.ev h]
theorem p_assign {v : Value} (h : ev ρ x = some v) : Pur P ρ ⟨dst, .assign x, ty, pos, af, g⟩ v := fun w a ha => by
  simp [execOp, ha.ev h]
theorem p_pick_t {v : Value} (hc : ev ρ x = some (.bool true)) (h : ev ρ y = some v) : Pur P ρ ⟨dst, .pick x y z, ty, pos, af, g⟩ v := fun w a ha => by
  simp [execOp, ha.ev h, ha.ev hc, asBool]
theorem p_pick_f {v : Value} (hc : ev ρ x = some (.bool false)) (h : ev ρ z = some v) : Pur P ρ ⟨dst, .pick x y z, ty, pos, af, g⟩ v := fun w a ha => by
  simp [execOp, ha.ev h, ha.ev hc, asBool]

theorem p_bin {k : IntKind} {m n : Int} {op : BinOp} {v : Value} (hx : ev ρ x = some (.int k m)) (hy : ev ρ y = some (.int k n)) (hg : ∀ w, (eqGuard op t x y (.int k m) (.int k n)).run P w = .ok () w)
    (hr : ∀ w, (binOp op t (.int k m) (.int k n)).run P w = .ok v w) : Pur P ρ ⟨dst, .binOp op t x y t', ty, pos, af, g⟩ v := fun w a ha => by
  simp [execOp, ha.ev hx, ha.ev hy, hg, hr]
theorem p_add {k : IntKind} {m n : Int} {r : Int} (hx : ev ρ x = some (.int k m)) (hy : ev ρ y = some (.int k n)) (hr : k.wrap (m + n) = r) : Pur P ρ ⟨dst, .binOp .add t x y t', ty, pos, af, g⟩ (.int k r) :=
  p_bin hx hy (fun w => by simp [eqGuard]) fun w => by simp [binOp, Op.intArith, hr]
theorem p_sub {k : IntKind} {m n : Int} {r : Int} (hx : ev ρ x = some (.int k m)) (hy : ev ρ y = some (.int k n)) (hr : k.wrap (m - n) = r) : Pur P ρ ⟨dst, .binOp .sub t x y t', ty, pos, af, g⟩ (.int k r) :=
  p_bin hx hy (fun w => by simp [eqGuard]) fun w => by simp [binOp, Op.intArith, hr]
theorem p_mul {k : IntKind} {m n : Int} {r : Int} (hx : ev ρ x = some (.int k m)) (hy : ev ρ y = some (.int k n)) (hr : k.wrap (m * n) = r) : Pur P ρ ⟨dst, .binOp .mul t x y t', ty, pos, af, g⟩ (.int k r) :=
  p_bin hx hy (fun w => by simp [eqGuard]) fun w => by simp [binOp, Op.intArith, hr]
theorem p_lss {k : IntKind} {m n : Int} {b : Bool} (hx : ev ρ x = some (.int k m)) (hy : ev ρ y = some (.int k n)) (hr : decide (m < n) = b) : Pur P ρ ⟨dst, .binOp .lss t x y t', ty, pos, af, g⟩ (.bool b) :=
  p_bin hx hy (fun w => by simp [eqGuard]) fun w => by simp [binOp, Op.intCmp, ← hr]
theorem p_leq {k : IntKind} {m n : Int} {b : Bool} (hx : ev ρ x = some (.int k m)) (hy : ev ρ y = some (.int k n)) (hr : decide (m ≤ n) = b) : Pur P ρ ⟨dst, .binOp .leq t x y t', ty, pos, af, g⟩ (.bool b) :=
  p_bin hx hy (fun w => by simp [eqGuard]) fun w => by simp [binOp, Op.intCmp, ← hr]
theorem p_gtr {k : IntKind} {m n : Int} {b : Bool} (hx : ev ρ x = some (.int k m)) (hy : ev ρ y = some (.int k n)) (hr : decide (n < m) = b) : Pur P ρ ⟨dst, .binOp .gtr t x y t', ty, pos, af, g⟩ (.bool b) :=
  p_bin hx hy (fun w => by simp [eqGuard]) fun w => by simp [binOp, Op.intCmp, ← hr]
theorem p_geq {k : IntKind} {m n : Int} {b : Bool} (hx : ev ρ x = some (.int k m)) (hy : ev ρ y = some (.int k n)) (hr : decide (n ≤ m) = b) : Pur P ρ ⟨dst, .binOp .geq t x y t', ty, pos, af, g⟩ (.bool b) :=
  p_bin hx hy (fun w => by simp [eqGuard]) fun w => by simp [binOp, Op.intCmp, ← hr]
theorem p_eql {k : IntKind} {m n : Int} {b : Bool} (hx : ev ρ x = some (.int k m)) (hy : ev ρ y = some (.int k n)) (hr : decide (m = n) = b) : Pur P ρ ⟨dst, .binOp .eql t x y t', ty, pos, af, g⟩ (.bool b) :=
  p_bin hx hy (fun w => by simp [eqGuard]) fun w => by
    subst hr; simp [binOp, Op.intCmp]; rfl
theorem p_neq {k : IntKind} {m n : Int} {b : Bool} (hx : ev ρ x = some (.int k m)) (hy : ev ρ y = some (.int k n)) (hr : decide (m = n) = !b) : Pur P ρ ⟨dst, .binOp .neq t x y t', ty, pos, af, g⟩ (.bool b) :=
  p_bin hx hy (fun w => by simp [eqGuard]) fun w => by
    have : (m != n) = b := by rw [bne, show (m == n) = decide (m = n) from rfl, hr]; simp
    simp [binOp, Op.intCmp, this]
theorem p_neg {k : IntKind} {m : Int} {r : Int} (hx : ev ρ x = some (.int k m)) (hr : k.wrap (-m) = r) : Pur P ρ ⟨dst, .unOp .neg t x, ty, pos, af, g⟩ (.int k r) := fun w a ha => by
  have h0 : (0 : Int) - m = -m := by omega
  simp [execOp, ha.ev hx, Op.unary, Op.intArith, h0, hr]
theorem p_not {b : Bool} (hx : ev ρ x = some (.bool b)) : Pur P ρ ⟨dst, .unOp .not t x, ty, pos, af, g⟩ (.bool !b) := fun w a ha => by
  simp [execOp, ha.ev hx, Op.unary]
theorem p_conv {k k' : IntKind} {m r : Int} (hx : ev ρ x = some (.int k m)) (hu : ∃ d, P.underlying t = some d) (hu' : P.underlying t' = some (.int k')) (hr : k'.wrap m = r) : Pur P ρ ⟨dst, .convert t t' x, ty, pos, af, g⟩ (.int k' r) := fun w a ha => by
  obtain ⟨d, hu⟩ := hu
  simp [execOp, ha.ev hx, convert, run_underlying hu, run_underlying hu', Conv.intToInt, hr]
theorem p_nilCheck {ad : Addr} (hx : ev ρ x = some (.pointer (some ad))) : Pur P ρ ⟨dst, .nilCheck x, ty, pos, af, g⟩ (.pointer (some ad)) := fun w a ha => by
  simp [execOp, ha.ev hx]
theorem p_extract {vs : Array Value} {i : Nat} {v : Value} (hx : ev ρ x = some (.tuple vs)) (hi : vs[i]? = some v) : Pur P ρ ⟨dst, .extract x i, ty, pos, af, g⟩ v := fun w a ha => by
  simp [execOp, ha.ev hx, Instr.extract, hi]
theorem p_len {A : Option Addr} {n c : Nat} {e : TypeId} (hx : ev ρ x = some (.slice A n c)) (hu : P.underlying t = some (.slice e)) : Pur P ρ ⟨dst, .call { callee := .builtin .len, args := #[x], argTypes := #[t] }, ty, pos, af, g⟩ (.int .i64 n) := fun w a ha => by
  simp [execOp, resolve, invoke, builtin, Builtin.len_, ha.ev hx, run_underlying hu, goInt]
theorem p_max {k : IntKind} {m n r : Int} (hx : ev ρ x = some (.int k m)) (hy : ev ρ y = some (.int k n)) (hr : max m n = r) : Pur P ρ ⟨dst, .call { callee := .builtin .max, args := #[x, y], argTypes := #[t, t'] }, ty, pos, af, g⟩ (.int k r) := fun w a ha => by
  subst hr
  have : (if n > m then n else m) = max m n := by omega
  simp [execOp, resolve, invoke, builtin, Builtin.max_, Builtin.max2, ha.ev hx, ha.ev hy, this]
/-- The address of a field that is not empty. -/
theorem p_field {b o o' : Nat} {fs : Array Field} {f : Field} {i : TypeInfo} {j : Nat} (hx : ev ρ x = some (.pointer (some ⟨b, o, none⟩))) (hu : P.underlying t = some (.struct fs)) (hf : fs[j]? = some f) (hi : P.info? f.type = some i) (hs : (i.size == 0) = false) (ho : o + f.offset = o') :
    Pur P ρ ⟨dst, .fieldAddr t x j, ty, pos, af, g⟩ (.pointer (some ⟨b, o', none⟩)) := fun w a ha => by
  subst ho
  have h0 : i.size ≠ 0 := by simpa using hs
  have ha' : (⟨b, o, none⟩ : Addr).add f.offset = ⟨b, o + f.offset, none⟩ := by unfold Addr.add; split <;> simp_all
  simp [execOp, Instr.fieldAt, run_underlying hu, hf, Instr.sureAddr, ha.ev hx, fieldPlace, sizeOf, typeInfo, hi, h0, ha']
/-- The address of an element of one cell. -/
theorem p_index {k : IntKind} {b o n c : Nat} {i : Int} {e : TypeId} {inf : TypeInfo} (hx : ev ρ x = some (.slice (some ⟨b, o, none⟩) n c)) (hy : ev ρ y = some (.int k i)) (hu : P.underlying t = some (.slice e)) (hi : P.info? e = some inf) (hs : (inf.size == 1) = true)
    (h0 : 0 ≤ i) (h1 : i < n) : Pur P ρ ⟨dst, .indexAddr t x y, ty, pos, af, g⟩ (.pointer (some ⟨b, o + i.toNat, none⟩)) := fun w a ha => by
  have hs' : inf.size = 1 := by simpa using hs
  have ha' : (⟨b, o, none⟩ : Addr).add i.toNat = ⟨b, o + i.toNat, none⟩ := by unfold Addr.add; split <;> simp_all
  simp [execOp, Instr.indexAt, asIntOf, run_underlying hu, ha.ev hx, ha.ev hy, h0, h1, sizeOf, typeInfo, hi, hs', ha']
theorem p_load {ad : Addr} {d : TypeDesc} {w : World} {v : Value} (hx : ev ρ x = some (.pointer (some ad))) (hu : P.underlying t = some d) (hd : (match d with | .struct _ | .array _ _ => true | _ => false) = false) (hc : w.cell? ad = some v) :
    Val P ρ ⟨dst, .load t x, ty, pos, af, g⟩ w v w := fun a ha => by
  have hag : (isAgg t).run P w = .ok false w := by
    unfold isAgg
    simp only [Sem.run_bind, run_underlying hu, Result.andThen_ok]
    cases d <;> simp_all
  simp [execOp, Instr.loadAt, Instr.sureAddr, ha.ev hx, loadVar, hag, hc]
theorem p_store {ad : Addr} {i : TypeInfo} {w : World} {v u : Value} (hx : ev ρ x = some (.pointer (some ad))) (hy : ev ρ y = some v) (hv : v.oneCell' = true) (hi : P.info? t = some i) (hs : (i.size == 1) = true) (hc : w.cell? ad = some u) (hf : w.frozen? ad = false) :
    Sto P ρ ⟨dst, .store t x y, ty, pos, af, g⟩ w (w.setCell ad v) := fun a ha => by
  have hs' : i.size = 1 := by simpa using hs
  have h0 : ad.add 0 = ad := by simp [Addr.add]
  have hcs : v.cells = #[v] := by cases v <;> simp_all [Value.cells, Value.oneCell']
  simp [execOp, Instr.storeAt, Instr.sureAddr, ha.ev hx, ha.ev hy, storeVar, hcs, sizeOf, typeInfo, hi, hs', storeCells, h0, store, Sem.run]
  cases v <;> simp_all [Sem.run, Value.oneCell']

theorem p_call {f : FuncId} {fn : Func} {al : List Operand} {ts : Array TypeId} {vs : List Value} {w : World} (hf : P.funcs[f]? = some fn) (hn : (fn.name == "runtime.NumGoroutine") = false) (hb : fn.body.isSome = true) (hv : evs ρ al = some vs) :
    Cal P ρ ⟨dst, .call { callee := .value (.func f), args := al.toArray, argTypes := ts }, ty, pos, af, g⟩ w f vs.toArray := fun a ha => by
  have h1 := enters_ hf hn hb vs.toArray w
  simp [execOp, resolve, Act.eval, Deferred.ofValue, invoke, ha.evs hv, h1]
theorem p_callv {f : FuncId} {fn : Func} {al : List Operand} {ts : Array TypeId} {vs : List Value} {cap : List Value} {w : World} (hx : ev ρ x = some (.func (.func f) #[] cap.toArray)) (hf : P.funcs[f]? = some fn) (hn : (fn.name == "runtime.NumGoroutine") = false) (hb : fn.body.isSome = true) (hv : evs ρ al = some vs) :
    Cal P ρ ⟨dst, .call { callee := .value x, args := al.toArray, argTypes := ts }, ty, pos, af, g⟩ w f (vs ++ cap).toArray := fun a ha => by
  have h1 := enters_ hf hn hb (vs ++ cap).toArray w
  have h2 : (al.map a.eval) = vs := ha.evs hv
  simp [execOp, resolve, ha.ev hx, Deferred.ofValue, invoke, h2]
  simpa using h1
theorem p_func {f : FuncId} {cs : List Operand} {vs : List Value} (hv : evs ρ cs = some vs) : Pur P ρ ⟨dst, .makeFunc (.func f) #[] cs.toArray, ty, pos, af, g⟩ (.func (.func f) #[] vs.toArray) := fun w a ha => by
  simp [execOp, Instr.makeFunc, ha.evs hv]
theorem p_map {w : World} : Val P ρ ⟨dst, .makeMap t none, ty, pos, af, g⟩ w (.map (some w.heap.size)) (w.alloc (.map #[] 0)) := fun a ha => by
  simp [execOp, run_makeMap]

/-- 'x[:k]' and 'x[k:]' of a slice whose elements are of one cell. -/
theorem p_upto {A : Option Addr} {n c : Nat} {k : IntKind} {i : Int} {e : TypeId} {inf : TypeInfo} (hx : ev ρ x = some (.slice A n c)) (hy : ev ρ y = some (.int k i)) (hu : P.underlying t = some (.slice e)) (hi : P.info? e = some inf) (hs : (inf.size == 1) = true)
    (h0 : 0 ≤ i) (h1 : i ≤ c) : Pur P ρ ⟨dst, .slice t x none (some y) none, ty, pos, af, g⟩ (.slice A i.toNat c) := fun w a ha => by
  have hs' : inf.size = 1 := by simpa using hs
  have hA : (if c = 0 then A else A.map (·.add (0 * inf.size))) = A := by
    split
    · rfl
    · cases A <;> simp [Addr.add]
  simp [execOp, Instr.sliceAt, Instr.slice, Instr.sliceBounds, Instr.sliceBound, asIntOf, run_underlying hu, ha.ev hx, ha.ev hy, h0, h1, sizeOf, typeInfo, hi]
  simp [Addr.add]
theorem p_from {A : Option Addr} {n c : Nat} {k : IntKind} {i : Int} {e : TypeId} {inf : TypeInfo} (hx : ev ρ x = some (.slice A n c)) (hy : ev ρ y = some (.int k i)) (hu : P.underlying t = some (.slice e)) (hi : P.info? e = some inf) (hs : (inf.size == 1) = true)
    (h0 : 0 ≤ i) (h1 : i ≤ n) : Pur P ρ ⟨dst, .slice t x (some y) none none, ty, pos, af, g⟩ (.slice (if c = i.toNat then A else A.map (·.add i.toNat)) (n - i.toNat) (c - i.toNat)) := fun w a ha => by
  have hs' : inf.size = 1 := by simpa using hs
  simp [execOp, Instr.sliceAt, Instr.slice, Instr.sliceBounds, Instr.sliceBound, asIntOf, run_underlying hu, ha.ev hx, ha.ev hy, h0, h1, sizeOf, typeInfo, hi, hs']
/-- A new slice of n elements of one cell. -/
theorem p_build0 {e : TypeId} {inf : TypeInfo} {w : World} (hu : P.underlying t = some (.slice e)) (hi : P.info? e = some inf) :
    Val P ρ ⟨dst, .buildSlice t 0 #[], ty, pos, af, g⟩ w (.slice (some ⟨w.heap.size, 0, none⟩) 0 0) (w.alloc (.cells #[] e)) := fun a ha => by
  have h0 : Array.range 0 = #[] := by decide
  simp [execOp, Instr.buildSlice, run_underlying hu, sizeOf, typeInfo, hi, h0, Instr.fill, newRow, newObj, Sem.run, World.alloc_eq]
theorem p_build1 {e : TypeId} {inf : TypeInfo} {z v : Value} {w : World} (hx : ev ρ x = some v) (hu : P.underlying t = some (.slice e)) (hi : P.info? e = some inf) (hs : (inf.size == 1) = true) (hz : inf.zero = some z) (hzc : (z.cells.size == 1) = true) (hv : v.cells = #[v]) :
    Val P ρ ⟨dst, .buildSlice t 1 #[(0, x)], ty, pos, af, g⟩ w (.slice (some ⟨w.heap.size, 0, none⟩) 1 1) (w.alloc (.cells #[v] e)) := fun a ha => by
  have hs' : inf.size = 1 := by simpa using hs
  have hz' : z.cells.size = 1 := by simpa using hzc
  have h1 : (Array.range 1).map (fun q => z.cells[q % z.cells.size]!) = #[z.cells[0]!] := by
    have : Array.range 1 = #[0] := by decide
    rw [this]; simp
  simp [execOp, Instr.buildSlice, run_underlying hu, sizeOf, typeInfo, hi, hs', zeroValue, hz, ha.ev hx, h1, Instr.fill, hv, newRow, newObj, Sem.run, World.alloc_eq]
/-- append of one row to a row of one's own. -/
theorem p_append {e : TypeId} {inf : TypeInfo} {z v : Value} {n m c B : Nat} {ad : Addr} {xs news : List Value} {w : World} (hx : ev ρ x = some v) (hy : ev ρ y = some (.slice (some ad) m c)) (hu : P.underlying t = some (.slice e)) (hi : P.info? e = some inf)
    (hs : (inf.size == 1) = true) (hz : inf.zero = some z) (hzc : (z.cells.size == 1) = true) (hown : w.ownsRow B e 1 v n xs) (hl : news.length = m) (hnews : ∀ j u, news[j]? = some u → w.cell? (ad.add j) = some u) (h1 : ∀ u ∈ news, u.oneCell' = true)
    (h63 : n + m ≤ 1099511627776) (hby : decide (inf.bytes ≤ 128) = true) (hB : B ≤ w.heap.size) :
    ∃ v' w', Val P ρ ⟨dst, .call { callee := .builtin .append, args := #[x, y], argTypes := #[t, t] }, ty, pos, af, g⟩ w v' w' ∧ w'.ownsRow B e 1 v' (n + m) (xs ++ news) ∧ w.grownBy w' v.ownBlock ∧ (v'.ownBlock = v.ownBlock ∨ ∃ b, v'.ownBlock = some b ∧ w.heap.size ≤ b) := by
  have hs' : inf.size = 1 := by simpa using hs
  have hz' : z.cells.size = 1 := by simpa using hzc
  have hby' : inf.bytes ≤ 128 := by simpa using hby
  have hbytes : (n + m) * inf.bytes ≤ 140737488355328 := Nat.le_trans (Nat.mul_le_mul h63 hby') (by omega)
  obtain ⟨v', w', hr, h2, h3, _, h5⟩ := run_append_own_at (P := P) (w := w) B t ty e inf z 1 inf.bytes hu hi hz hs' rfl hz' (by omega) v n xs hown ad m c news (by omega) hnews h1 (by simp only [maxLen]; omega) hbytes hB
  refine ⟨v', w', fun a ha => ?_, h2, h3, ?_⟩
  · simp [execOp, resolve, invoke, builtin, ha.ev hx, ha.ev hy, hr]
  · rcases h5 with h | h
    · exact .inl h
    · exact .inr ⟨_, h, Nat.le_refl _⟩
/-- append where there is room: the cells are written in place. -/
theorem p_appendIn {e : TypeId} {inf : TypeInfo} {b n cap m c : Nat} {ad : Addr} {news : List Value} {w : World} (hx : ev ρ x = some (.slice (some ⟨b, 0, none⟩) n cap)) (hy : ev ρ y = some (.slice (some ad) m c)) (hu : P.underlying t = some (.slice e)) (hi : P.info? e = some inf)
    (hs : (inf.size == 1) = true) (hl : news.length = m) (hnews : ∀ j u, news[j]? = some u → w.cell? (ad.add j) = some u) (h1 : ∀ u ∈ news, u.oneCell' = true) (hroom : n + m ≤ cap)
    (hc : ∀ j, j < m → (w.cell? ⟨b, n + j, none⟩).isSome = true) (hf : ∀ j, w.frozen? ⟨b, j, none⟩ = false) :
    Val P ρ ⟨dst, .call { callee := .builtin .append, args := #[x, y], argTypes := #[t, t] }, ty, pos, af, g⟩ w (.slice (some ⟨b, 0, none⟩) (n + m) cap) (w.setCells b n news) := fun a ha => by
  have hs' : inf.size = 1 := by simpa using hs
  have := run_append_room_cells (P := P) (w := w) t ty e inf hu hi b 0 n cap ad m c news (by rw [hs']; omega) hnews h1 hroom (by rw [hs']; simpa [hl] using hc) (fun j _ => hf _)
  rw [hs', Nat.zero_add, Nat.mul_one] at this
  simp [execOp, resolve, invoke, builtin, ha.ev hx, ha.ev hy, this]
/-- append of nothing to nothing. -/
theorem p_appendNil {e : TypeId} {inf : TypeInfo} {n cap c : Nat} {A A' : Option Addr} {w : World} (hx : ev ρ x = some (.slice A n cap)) (hy : ev ρ y = some (.slice A' 0 c)) (hu : P.underlying t = some (.slice e)) (hi : P.info? e = some inf) (hn : n ≤ cap) :
    Val P ρ ⟨dst, .call { callee := .builtin .append, args := #[x, y], argTypes := #[t, t] }, ty, pos, af, g⟩ w (.slice A n cap) w := fun a ha => by
  have : (Builtin.append_ #[t, t] ty #[.slice A n cap, .slice A' 0 c]).run P w = .ok (.slice A n cap) w := by
    cases A <;> cases A' <;> simp [Builtin.append_, run_underlying hu, hu, sizeOf, typeInfo, hi, Builtin.lenOf, Builtin.firstCells, hn, storeCells, loadCells, loadCellsFrom]
  simp [execOp, resolve, invoke, builtin, ha.ev hx, ha.ev hy, this]
end
end Go.Proofs.Ytcahhbcehnbdkaa.Eng
namespace Go.Proofs.Ytcahhbcehnbdkaa.Eng
open Go.RowKit Go.Proofs.YtcahhbcehnbdkaaW.PrintWords Go.Proofs.YtcahhbcehnbdkaaW.PrintLast
/-- The first n digits of k. -/
def bA (n k : Nat) : Array Bool := ((List.range n).map k.testBit).toArray
section
variable {P : Program} {N : Nat} {rest : List Oper} {ops : Array Oper} {Q : Exit → Env → World → Prop} {ρ : Env} {w : World} {d : Nat} {x : Operand} {ty : TypeId} {pos : String} {af : Array Edge} {gd : Option (Nat × Bool)} {v : Value}
theorem mv_ (hw : wantB ops ρ gd = some true) (hd : Nat.blt d N = true) (hx : ev ρ x = some v) (h : FL P N ops Q rest ((d, v) :: ρ) w) : FL P N ops Q (⟨some d, .move x, ty, pos, af, gd⟩ :: rest) ρ w := FL.pur hw hd (p_move hx) h
theorem sg_ (hw : wantB ops ρ gd = some true) (hd : Nat.blt d N = true) (hx : ev ρ x = some v) (h : FL P N ops Q rest ((d, v) :: ρ) w) : FL P N ops Q (⟨some d, .assign x, ty, pos, af, gd⟩ :: rest) ρ w := FL.pur hw hd (p_assign hx) h
end
end Go.Proofs.Ytcahhbcehnbdkaa.Eng

/- The operations' lemmas at this program's types. -/
namespace Go.Proofs.Ytcahhbcehnbdkaa.Eng
open Go.RowKit Go.Proofs.YtcahhbcehnbdkaaW.PrintWords
theorem wr {x : Int} (h0 : -9223372036854775808 ≤ x) (h1 : x ≤ 9223372036854775807) : IntKind.i64.wrap x = x := IntWalk.i64_in x (by omega)
theorem wr8 {x : Int} (h0 : -128 ≤ x) (h1 : x ≤ 127) : IntKind.i8.wrap x = x := IntWalk.i8_in x (by omega)

noncomputable def inf3 : TypeInfo := (Try.prog.info? 3).getD default
theorem inf3_eq : Try.prog.info? 3 = some inf3 := by kernel_rfl
theorem inf3_size : (inf3.size == 1) = true := by kernel_rfl
theorem inf3_pos : (inf3.size == 0) = false := by kernel_rfl
theorem inf3_zero : inf3.zero = some (.int .i64 0) := by kernel_rfl
theorem inf3_bytes : decide (inf3.bytes ≤ 128) = true := by kernel_rfl
noncomputable def inf4 : TypeInfo := (Try.prog.info? 4).getD default
theorem inf4_eq : Try.prog.info? 4 = some inf4 := by kernel_rfl
theorem inf4_size : (inf4.size == 1) = true := by kernel_rfl
theorem inf4_pos : (inf4.size == 0) = false := by kernel_rfl
theorem inf4_zero : inf4.zero = some (.bool false) := by kernel_rfl
theorem inf4_bytes : decide (inf4.bytes ≤ 128) = true := by kernel_rfl
noncomputable def inf53 : TypeInfo := (Try.prog.info? 53).getD default
theorem inf53_eq : Try.prog.info? 53 = some inf53 := by kernel_rfl
theorem inf53_size : (inf53.size == 1) = true := by kernel_rfl
theorem inf53_pos : (inf53.size == 0) = false := by kernel_rfl
theorem inf53_zero : inf53.zero = some (.int .i8 0) := by kernel_rfl
theorem inf53_bytes : decide (inf53.bytes ≤ 128) = true := by kernel_rfl
noncomputable def inf41 : TypeInfo := (Try.prog.info? 41).getD default
theorem inf41_eq : Try.prog.info? 41 = some inf41 := by kernel_rfl
theorem inf41_size : (inf41.size == 1) = true := by kernel_rfl
theorem inf41_pos : (inf41.size == 0) = false := by kernel_rfl
theorem inf41_zero : inf41.zero = some (.slice none 0 0) := by kernel_rfl
theorem inf41_bytes : decide (inf41.bytes ≤ 128) = true := by kernel_rfl
noncomputable def inf22 : TypeInfo := (Try.prog.info? 22).getD default
theorem inf22_eq : Try.prog.info? 22 = some inf22 := by kernel_rfl
theorem inf22_size : (inf22.size == 1) = true := by kernel_rfl
theorem inf22_pos : (inf22.size == 0) = false := by kernel_rfl
theorem inf22_zero : inf22.zero = some (.slice none 0 0) := by kernel_rfl
theorem inf22_bytes : decide (inf22.bytes ≤ 128) = true := by kernel_rfl
noncomputable def inf23 : TypeInfo := (Try.prog.info? 23).getD default
theorem inf23_eq : Try.prog.info? 23 = some inf23 := by kernel_rfl
theorem inf23_size : (inf23.size == 1) = true := by kernel_rfl
theorem inf23_pos : (inf23.size == 0) = false := by kernel_rfl
theorem inf23_zero : inf23.zero = some (.slice none 0 0) := by kernel_rfl
theorem inf23_bytes : decide (inf23.bytes ≤ 128) = true := by kernel_rfl
noncomputable def inf65 : TypeInfo := (Try.prog.info? 65).getD default
theorem inf65_eq : Try.prog.info? 65 = some inf65 := by kernel_rfl
theorem inf65_size : (inf65.size == 1) = true := by kernel_rfl
theorem inf65_pos : (inf65.size == 0) = false := by kernel_rfl
theorem inf65_zero : inf65.zero = some (.slice none 0 0) := by kernel_rfl
theorem inf65_bytes : decide (inf65.bytes ≤ 128) = true := by kernel_rfl
noncomputable def inf49 : TypeInfo := (Try.prog.info? 49).getD default
theorem inf49_eq : Try.prog.info? 49 = some inf49 := by kernel_rfl
theorem inf49_size : (inf49.size == 1) = true := by kernel_rfl
theorem inf49_pos : (inf49.size == 0) = false := by kernel_rfl
theorem inf49_zero : inf49.zero = some (.pointer none) := by kernel_rfl
theorem inf49_bytes : decide (inf49.bytes ≤ 128) = true := by kernel_rfl
noncomputable def inf5 : TypeInfo := (Try.prog.info? 5).getD default
theorem inf5_eq : Try.prog.info? 5 = some inf5 := by kernel_rfl
theorem inf5_size : (inf5.size == 1) = true := by kernel_rfl
theorem inf5_pos : (inf5.size == 0) = false := by kernel_rfl
theorem inf5_zero : inf5.zero = some (.int .u8 0) := by kernel_rfl
theorem inf5_bytes : decide (inf5.bytes ≤ 128) = true := by kernel_rfl
noncomputable def inf26 : TypeInfo := (Try.prog.info? 26).getD default
theorem inf26_eq : Try.prog.info? 26 = some inf26 := by kernel_rfl
theorem inf26_size : (inf26.size == 1) = true := by kernel_rfl
theorem inf26_pos : (inf26.size == 0) = false := by kernel_rfl
theorem inf26_zero : inf26.zero = some (.int .i64 0) := by kernel_rfl
theorem inf26_bytes : decide (inf26.bytes ≤ 128) = true := by kernel_rfl
section
variable {ρ : Env} {dst : Option Tmp} {ty : TypeId} {pos : String} {af : Array Edge} {g : Option (Nat × Bool)} {x y : Operand}
theorem off0 (b n : Nat) : (⟨b, 0 + n, none⟩ : Addr) = ⟨b, n, none⟩ := by rw [Nat.zero_add]

theorem fld67_0 {b : Nat} (hx : ev ρ x = some (.pointer (some ⟨b, 0, none⟩))) : Pur Try.prog ρ ⟨dst, .fieldAddr 67 x 0, ty, pos, af, g⟩ (.pointer (some ⟨b, 0, none⟩)) := p_field hx Try.underlying67 rfl inf3_eq inf3_pos rfl
theorem fld67_1 {b : Nat} (hx : ev ρ x = some (.pointer (some ⟨b, 0, none⟩))) : Pur Try.prog ρ ⟨dst, .fieldAddr 67 x 1, ty, pos, af, g⟩ (.pointer (some ⟨b, 1, none⟩)) := p_field hx Try.underlying67 rfl inf22_eq inf22_pos rfl
theorem fld67_2 {b : Nat} (hx : ev ρ x = some (.pointer (some ⟨b, 0, none⟩))) : Pur Try.prog ρ ⟨dst, .fieldAddr 67 x 2, ty, pos, af, g⟩ (.pointer (some ⟨b, 2, none⟩)) := p_field hx Try.underlying67 rfl inf22_eq inf22_pos rfl
theorem fld67_3 {b : Nat} (hx : ev ρ x = some (.pointer (some ⟨b, 0, none⟩))) : Pur Try.prog ρ ⟨dst, .fieldAddr 67 x 3, ty, pos, af, g⟩ (.pointer (some ⟨b, 3, none⟩)) := p_field hx Try.underlying67 rfl inf65_eq inf65_pos rfl
theorem fld67_4 {b : Nat} (hx : ev ρ x = some (.pointer (some ⟨b, 0, none⟩))) : Pur Try.prog ρ ⟨dst, .fieldAddr 67 x 4, ty, pos, af, g⟩ (.pointer (some ⟨b, 4, none⟩)) := p_field hx Try.underlying67 rfl inf41_eq inf41_pos rfl
theorem fld67_5 {b : Nat} (hx : ev ρ x = some (.pointer (some ⟨b, 0, none⟩))) : Pur Try.prog ρ ⟨dst, .fieldAddr 67 x 5, ty, pos, af, g⟩ (.pointer (some ⟨b, 5, none⟩)) := p_field hx Try.underlying67 rfl inf41_eq inf41_pos rfl
theorem fld67_6 {b : Nat} (hx : ev ρ x = some (.pointer (some ⟨b, 0, none⟩))) : Pur Try.prog ρ ⟨dst, .fieldAddr 67 x 6, ty, pos, af, g⟩ (.pointer (some ⟨b, 6, none⟩)) := p_field hx Try.underlying67 rfl inf41_eq inf41_pos rfl
theorem fld67_7 {b : Nat} (hx : ev ρ x = some (.pointer (some ⟨b, 0, none⟩))) : Pur Try.prog ρ ⟨dst, .fieldAddr 67 x 7, ty, pos, af, g⟩ (.pointer (some ⟨b, 7, none⟩)) := p_field hx Try.underlying67 rfl inf41_eq inf41_pos rfl
theorem fld67_8 {b : Nat} (hx : ev ρ x = some (.pointer (some ⟨b, 0, none⟩))) : Pur Try.prog ρ ⟨dst, .fieldAddr 67 x 8, ty, pos, af, g⟩ (.pointer (some ⟨b, 8, none⟩)) := p_field hx Try.underlying67 rfl inf41_eq inf41_pos rfl
theorem fld67_9 {b : Nat} (hx : ev ρ x = some (.pointer (some ⟨b, 0, none⟩))) : Pur Try.prog ρ ⟨dst, .fieldAddr 67 x 9, ty, pos, af, g⟩ (.pointer (some ⟨b, 9, none⟩)) := p_field hx Try.underlying67 rfl inf3_eq inf3_pos rfl
theorem fld67_10 {b : Nat} (hx : ev ρ x = some (.pointer (some ⟨b, 0, none⟩))) : Pur Try.prog ρ ⟨dst, .fieldAddr 67 x 10, ty, pos, af, g⟩ (.pointer (some ⟨b, 10, none⟩)) := p_field hx Try.underlying67 rfl inf22_eq inf22_pos rfl
theorem fld36_0 {b : Nat} (hx : ev ρ x = some (.pointer (some ⟨b, 0, none⟩))) : Pur Try.prog ρ ⟨dst, .fieldAddr 36 x 0, ty, pos, af, g⟩ (.pointer (some ⟨b, 0, none⟩)) := p_field hx Try.underlying36 rfl inf5_eq inf5_pos rfl
theorem fld36_1 {b : Nat} (hx : ev ρ x = some (.pointer (some ⟨b, 0, none⟩))) : Pur Try.prog ρ ⟨dst, .fieldAddr 36 x 1, ty, pos, af, g⟩ (.pointer (some ⟨b, 1, none⟩)) := p_field hx Try.underlying36 rfl inf23_eq inf23_pos rfl
theorem fld36_2 {b : Nat} (hx : ev ρ x = some (.pointer (some ⟨b, 0, none⟩))) : Pur Try.prog ρ ⟨dst, .fieldAddr 36 x 2, ty, pos, af, g⟩ (.pointer (some ⟨b, 2, none⟩)) := p_field hx Try.underlying36 rfl inf22_eq inf22_pos rfl
theorem idx41 {k : IntKind} {b n c : Nat} {i : Int} (hx : ev ρ x = some (.slice (some ⟨b, 0, none⟩) n c)) (hy : ev ρ y = some (.int k i)) (h0 : 0 ≤ i) (h1 : i < n) : Pur Try.prog ρ ⟨dst, .indexAddr 41 x y, ty, pos, af, g⟩ (.pointer (some ⟨b, i.toNat, none⟩)) := by
  have := p_index (P := Try.prog) (ρ := ρ) (dst := dst) (ty := ty) (pos := pos) (af := af) (g := g) hx hy Try.underlying41 inf3_eq inf3_size h0 h1
  rwa [off0] at this
theorem bld41_0 {w : World} : Val Try.prog ρ ⟨dst, .buildSlice 41 0 #[], ty, pos, af, g⟩ w (.slice (some ⟨w.heap.size, 0, none⟩) 0 0) (w.alloc (.cells #[] 3)) := p_build0 Try.underlying41 inf3_eq
theorem bld41 {v : Value} {w : World} (hx : ev ρ x = some v) (hv : v.cells = #[v]) : Val Try.prog ρ ⟨dst, .buildSlice 41 1 #[(0, x)], ty, pos, af, g⟩ w (.slice (some ⟨w.heap.size, 0, none⟩) 1 1) (w.alloc (.cells #[v] 3)) := p_build1 hx Try.underlying41 inf3_eq inf3_size inf3_zero rfl hv
theorem app41 {v : Value} {n m c B : Nat} {ad : Addr} {xs news : List Value} {w : World} (hx : ev ρ x = some v) (hy : ev ρ y = some (.slice (some ad) m c)) (hown : w.ownsRow B 3 1 v n xs) (hl : news.length = m) (hnews : ∀ j u, news[j]? = some u → w.cell? (ad.add j) = some u) (h1 : ∀ u ∈ news, u.oneCell' = true)
    (h63 : n + m ≤ 1099511627776) (hB : B ≤ w.heap.size) :
    ∃ v' w', Val Try.prog ρ ⟨dst, .call { callee := .builtin .append, args := #[x, y], argTypes := #[41, 41] }, ty, pos, af, g⟩ w v' w' ∧ w'.ownsRow B 3 1 v' (n + m) (xs ++ news) ∧ w.grownBy w' v.ownBlock ∧ (v'.ownBlock = v.ownBlock ∨ ∃ b, v'.ownBlock = some b ∧ w.heap.size ≤ b) :=
  p_append hx hy Try.underlying41 inf3_eq inf3_size inf3_zero rfl hown hl hnews h1 h63 inf3_bytes hB
theorem idx22 {k : IntKind} {b n c : Nat} {i : Int} (hx : ev ρ x = some (.slice (some ⟨b, 0, none⟩) n c)) (hy : ev ρ y = some (.int k i)) (h0 : 0 ≤ i) (h1 : i < n) : Pur Try.prog ρ ⟨dst, .indexAddr 22 x y, ty, pos, af, g⟩ (.pointer (some ⟨b, i.toNat, none⟩)) := by
  have := p_index (P := Try.prog) (ρ := ρ) (dst := dst) (ty := ty) (pos := pos) (af := af) (g := g) hx hy Try.underlying22 inf41_eq inf41_size h0 h1
  rwa [off0] at this
theorem bld22_0 {w : World} : Val Try.prog ρ ⟨dst, .buildSlice 22 0 #[], ty, pos, af, g⟩ w (.slice (some ⟨w.heap.size, 0, none⟩) 0 0) (w.alloc (.cells #[] 41)) := p_build0 Try.underlying22 inf41_eq
theorem bld22 {v : Value} {w : World} (hx : ev ρ x = some v) (hv : v.cells = #[v]) : Val Try.prog ρ ⟨dst, .buildSlice 22 1 #[(0, x)], ty, pos, af, g⟩ w (.slice (some ⟨w.heap.size, 0, none⟩) 1 1) (w.alloc (.cells #[v] 41)) := p_build1 hx Try.underlying22 inf41_eq inf41_size inf41_zero rfl hv
theorem app22 {v : Value} {n m c B : Nat} {ad : Addr} {xs news : List Value} {w : World} (hx : ev ρ x = some v) (hy : ev ρ y = some (.slice (some ad) m c)) (hown : w.ownsRow B 41 1 v n xs) (hl : news.length = m) (hnews : ∀ j u, news[j]? = some u → w.cell? (ad.add j) = some u) (h1 : ∀ u ∈ news, u.oneCell' = true)
    (h63 : n + m ≤ 1099511627776) (hB : B ≤ w.heap.size) :
    ∃ v' w', Val Try.prog ρ ⟨dst, .call { callee := .builtin .append, args := #[x, y], argTypes := #[22, 22] }, ty, pos, af, g⟩ w v' w' ∧ w'.ownsRow B 41 1 v' (n + m) (xs ++ news) ∧ w.grownBy w' v.ownBlock ∧ (v'.ownBlock = v.ownBlock ∨ ∃ b, v'.ownBlock = some b ∧ w.heap.size ≤ b) :=
  p_append hx hy Try.underlying22 inf41_eq inf41_size inf41_zero rfl hown hl hnews h1 h63 inf41_bytes hB
theorem idx65 {k : IntKind} {b n c : Nat} {i : Int} (hx : ev ρ x = some (.slice (some ⟨b, 0, none⟩) n c)) (hy : ev ρ y = some (.int k i)) (h0 : 0 ≤ i) (h1 : i < n) : Pur Try.prog ρ ⟨dst, .indexAddr 65 x y, ty, pos, af, g⟩ (.pointer (some ⟨b, i.toNat, none⟩)) := by
  have := p_index (P := Try.prog) (ρ := ρ) (dst := dst) (ty := ty) (pos := pos) (af := af) (g := g) hx hy Try.underlying65 inf53_eq inf53_size h0 h1
  rwa [off0] at this
theorem bld65_0 {w : World} : Val Try.prog ρ ⟨dst, .buildSlice 65 0 #[], ty, pos, af, g⟩ w (.slice (some ⟨w.heap.size, 0, none⟩) 0 0) (w.alloc (.cells #[] 53)) := p_build0 Try.underlying65 inf53_eq
theorem bld65 {v : Value} {w : World} (hx : ev ρ x = some v) (hv : v.cells = #[v]) : Val Try.prog ρ ⟨dst, .buildSlice 65 1 #[(0, x)], ty, pos, af, g⟩ w (.slice (some ⟨w.heap.size, 0, none⟩) 1 1) (w.alloc (.cells #[v] 53)) := p_build1 hx Try.underlying65 inf53_eq inf53_size inf53_zero rfl hv
theorem app65 {v : Value} {n m c B : Nat} {ad : Addr} {xs news : List Value} {w : World} (hx : ev ρ x = some v) (hy : ev ρ y = some (.slice (some ad) m c)) (hown : w.ownsRow B 53 1 v n xs) (hl : news.length = m) (hnews : ∀ j u, news[j]? = some u → w.cell? (ad.add j) = some u) (h1 : ∀ u ∈ news, u.oneCell' = true)
    (h63 : n + m ≤ 1099511627776) (hB : B ≤ w.heap.size) :
    ∃ v' w', Val Try.prog ρ ⟨dst, .call { callee := .builtin .append, args := #[x, y], argTypes := #[65, 65] }, ty, pos, af, g⟩ w v' w' ∧ w'.ownsRow B 53 1 v' (n + m) (xs ++ news) ∧ w.grownBy w' v.ownBlock ∧ (v'.ownBlock = v.ownBlock ∨ ∃ b, v'.ownBlock = some b ∧ w.heap.size ≤ b) :=
  p_append hx hy Try.underlying65 inf53_eq inf53_size inf53_zero rfl hown hl hnews h1 h63 inf53_bytes hB
theorem idx23 {k : IntKind} {b n c : Nat} {i : Int} (hx : ev ρ x = some (.slice (some ⟨b, 0, none⟩) n c)) (hy : ev ρ y = some (.int k i)) (h0 : 0 ≤ i) (h1 : i < n) : Pur Try.prog ρ ⟨dst, .indexAddr 23 x y, ty, pos, af, g⟩ (.pointer (some ⟨b, i.toNat, none⟩)) := by
  have := p_index (P := Try.prog) (ρ := ρ) (dst := dst) (ty := ty) (pos := pos) (af := af) (g := g) hx hy Try.underlying23 inf4_eq inf4_size h0 h1
  rwa [off0] at this
theorem bld23_0 {w : World} : Val Try.prog ρ ⟨dst, .buildSlice 23 0 #[], ty, pos, af, g⟩ w (.slice (some ⟨w.heap.size, 0, none⟩) 0 0) (w.alloc (.cells #[] 4)) := p_build0 Try.underlying23 inf4_eq
theorem bld23 {v : Value} {w : World} (hx : ev ρ x = some v) (hv : v.cells = #[v]) : Val Try.prog ρ ⟨dst, .buildSlice 23 1 #[(0, x)], ty, pos, af, g⟩ w (.slice (some ⟨w.heap.size, 0, none⟩) 1 1) (w.alloc (.cells #[v] 4)) := p_build1 hx Try.underlying23 inf4_eq inf4_size inf4_zero rfl hv
theorem app23 {v : Value} {n m c B : Nat} {ad : Addr} {xs news : List Value} {w : World} (hx : ev ρ x = some v) (hy : ev ρ y = some (.slice (some ad) m c)) (hown : w.ownsRow B 4 1 v n xs) (hl : news.length = m) (hnews : ∀ j u, news[j]? = some u → w.cell? (ad.add j) = some u) (h1 : ∀ u ∈ news, u.oneCell' = true)
    (h63 : n + m ≤ 1099511627776) (hB : B ≤ w.heap.size) :
    ∃ v' w', Val Try.prog ρ ⟨dst, .call { callee := .builtin .append, args := #[x, y], argTypes := #[23, 23] }, ty, pos, af, g⟩ w v' w' ∧ w'.ownsRow B 4 1 v' (n + m) (xs ++ news) ∧ w.grownBy w' v.ownBlock ∧ (v'.ownBlock = v.ownBlock ∨ ∃ b, v'.ownBlock = some b ∧ w.heap.size ≤ b) :=
  p_append hx hy Try.underlying23 inf4_eq inf4_size inf4_zero rfl hown hl hnews h1 h63 inf4_bytes hB
theorem upto41 {A : Option Addr} {n c : Nat} {k : IntKind} {i : Int} (hx : ev ρ x = some (.slice A n c)) (hy : ev ρ y = some (.int k i)) (h0 : 0 ≤ i) (h1 : i ≤ c) : Pur Try.prog ρ ⟨dst, .slice 41 x none (some y) none, ty, pos, af, g⟩ (.slice A i.toNat c) := p_upto hx hy Try.underlying41 inf3_eq inf3_size h0 h1
theorem from41 {A : Option Addr} {n c : Nat} {k : IntKind} {i : Int} (hx : ev ρ x = some (.slice A n c)) (hy : ev ρ y = some (.int k i)) (h0 : 0 ≤ i) (h1 : i ≤ n) : Pur Try.prog ρ ⟨dst, .slice 41 x (some y) none none, ty, pos, af, g⟩ (.slice (if c = i.toNat then A else A.map (·.add i.toNat)) (n - i.toNat) (c - i.toNat)) := p_from hx hy Try.underlying41 inf3_eq inf3_size h0 h1
theorem upto22 {A : Option Addr} {n c : Nat} {k : IntKind} {i : Int} (hx : ev ρ x = some (.slice A n c)) (hy : ev ρ y = some (.int k i)) (h0 : 0 ≤ i) (h1 : i ≤ c) : Pur Try.prog ρ ⟨dst, .slice 22 x none (some y) none, ty, pos, af, g⟩ (.slice A i.toNat c) := p_upto hx hy Try.underlying22 inf41_eq inf41_size h0 h1
theorem from22 {A : Option Addr} {n c : Nat} {k : IntKind} {i : Int} (hx : ev ρ x = some (.slice A n c)) (hy : ev ρ y = some (.int k i)) (h0 : 0 ≤ i) (h1 : i ≤ n) : Pur Try.prog ρ ⟨dst, .slice 22 x (some y) none none, ty, pos, af, g⟩ (.slice (if c = i.toNat then A else A.map (·.add i.toNat)) (n - i.toNat) (c - i.toNat)) := p_from hx hy Try.underlying22 inf41_eq inf41_size h0 h1
theorem upto65 {A : Option Addr} {n c : Nat} {k : IntKind} {i : Int} (hx : ev ρ x = some (.slice A n c)) (hy : ev ρ y = some (.int k i)) (h0 : 0 ≤ i) (h1 : i ≤ c) : Pur Try.prog ρ ⟨dst, .slice 65 x none (some y) none, ty, pos, af, g⟩ (.slice A i.toNat c) := p_upto hx hy Try.underlying65 inf53_eq inf53_size h0 h1
theorem from65 {A : Option Addr} {n c : Nat} {k : IntKind} {i : Int} (hx : ev ρ x = some (.slice A n c)) (hy : ev ρ y = some (.int k i)) (h0 : 0 ≤ i) (h1 : i ≤ n) : Pur Try.prog ρ ⟨dst, .slice 65 x (some y) none none, ty, pos, af, g⟩ (.slice (if c = i.toNat then A else A.map (·.add i.toNat)) (n - i.toNat) (c - i.toNat)) := p_from hx hy Try.underlying65 inf53_eq inf53_size h0 h1
theorem upto23 {A : Option Addr} {n c : Nat} {k : IntKind} {i : Int} (hx : ev ρ x = some (.slice A n c)) (hy : ev ρ y = some (.int k i)) (h0 : 0 ≤ i) (h1 : i ≤ c) : Pur Try.prog ρ ⟨dst, .slice 23 x none (some y) none, ty, pos, af, g⟩ (.slice A i.toNat c) := p_upto hx hy Try.underlying23 inf4_eq inf4_size h0 h1
theorem from23 {A : Option Addr} {n c : Nat} {k : IntKind} {i : Int} (hx : ev ρ x = some (.slice A n c)) (hy : ev ρ y = some (.int k i)) (h0 : 0 ≤ i) (h1 : i ≤ n) : Pur Try.prog ρ ⟨dst, .slice 23 x (some y) none none, ty, pos, af, g⟩ (.slice (if c = i.toNat then A else A.map (·.add i.toNat)) (n - i.toNat) (c - i.toNat)) := p_from hx hy Try.underlying23 inf4_eq inf4_size h0 h1
theorem from41E {A A' : Option Addr} {n c n' c' : Nat} {k : IntKind} {i : Int} (hx : ev ρ x = some (.slice A n c)) (hy : ev ρ y = some (.int k i)) (h0 : 0 ≤ i) (h1 : i ≤ n) (hA : (if c = i.toNat then A else A.map (·.add i.toNat)) = A') (hn : n - i.toNat = n') (hc : c - i.toNat = c') : Pur Try.prog ρ ⟨dst, .slice 41 x (some y) none none, ty, pos, af, g⟩ (.slice A' n' c') := by
  subst hA; subst hn; subst hc; exact from41 hx hy h0 h1
theorem appIn41 {b n cap m c : Nat} {ad : Addr} {news : List Value} {w : World} (hx : ev ρ x = some (.slice (some ⟨b, 0, none⟩) n cap)) (hy : ev ρ y = some (.slice (some ad) m c)) (hl : news.length = m) (hnews : ∀ j u, news[j]? = some u → w.cell? (ad.add j) = some u) (h1 : ∀ u ∈ news, u.oneCell' = true) (hroom : n + m ≤ cap) (hc : ∀ j, j < m → (w.cell? ⟨b, n + j, none⟩).isSome = true) (hf : ∀ j, w.frozen? ⟨b, j, none⟩ = false) :
    Val Try.prog ρ ⟨dst, .call { callee := .builtin .append, args := #[x, y], argTypes := #[41, 41] }, ty, pos, af, g⟩ w (.slice (some ⟨b, 0, none⟩) (n + m) cap) (w.setCells b n news) := p_appendIn hx hy Try.underlying41 inf3_eq inf3_size hl hnews h1 hroom hc hf
theorem appNil41 {n cap c : Nat} {A A' : Option Addr} {w : World} (hx : ev ρ x = some (.slice A n cap)) (hy : ev ρ y = some (.slice A' 0 c)) (hn : n ≤ cap) :
    Val Try.prog ρ ⟨dst, .call { callee := .builtin .append, args := #[x, y], argTypes := #[41, 41] }, ty, pos, af, g⟩ w (.slice A n cap) w := p_appendNil hx hy Try.underlying41 inf3_eq hn
theorem st3 {ad : Addr} {w : World} {v u : Value} (hx : ev ρ x = some (.pointer (some ad))) (hy : ev ρ y = some v) (hv : v.oneCell' = true) (hc : w.cell? ad = some u) (hf : w.frozen? ad = false) : Sto Try.prog ρ ⟨dst, .store 3 x y, ty, pos, af, g⟩ w (w.setCell ad v) := p_store hx hy hv inf3_eq inf3_size hc hf
theorem st4 {ad : Addr} {w : World} {v u : Value} (hx : ev ρ x = some (.pointer (some ad))) (hy : ev ρ y = some v) (hv : v.oneCell' = true) (hc : w.cell? ad = some u) (hf : w.frozen? ad = false) : Sto Try.prog ρ ⟨dst, .store 4 x y, ty, pos, af, g⟩ w (w.setCell ad v) := p_store hx hy hv inf4_eq inf4_size hc hf
theorem st53 {ad : Addr} {w : World} {v u : Value} (hx : ev ρ x = some (.pointer (some ad))) (hy : ev ρ y = some v) (hv : v.oneCell' = true) (hc : w.cell? ad = some u) (hf : w.frozen? ad = false) : Sto Try.prog ρ ⟨dst, .store 53 x y, ty, pos, af, g⟩ w (w.setCell ad v) := p_store hx hy hv inf53_eq inf53_size hc hf
theorem st41 {ad : Addr} {w : World} {v u : Value} (hx : ev ρ x = some (.pointer (some ad))) (hy : ev ρ y = some v) (hv : v.oneCell' = true) (hc : w.cell? ad = some u) (hf : w.frozen? ad = false) : Sto Try.prog ρ ⟨dst, .store 41 x y, ty, pos, af, g⟩ w (w.setCell ad v) := p_store hx hy hv inf41_eq inf41_size hc hf
theorem st22 {ad : Addr} {w : World} {v u : Value} (hx : ev ρ x = some (.pointer (some ad))) (hy : ev ρ y = some v) (hv : v.oneCell' = true) (hc : w.cell? ad = some u) (hf : w.frozen? ad = false) : Sto Try.prog ρ ⟨dst, .store 22 x y, ty, pos, af, g⟩ w (w.setCell ad v) := p_store hx hy hv inf22_eq inf22_size hc hf
theorem st23 {ad : Addr} {w : World} {v u : Value} (hx : ev ρ x = some (.pointer (some ad))) (hy : ev ρ y = some v) (hv : v.oneCell' = true) (hc : w.cell? ad = some u) (hf : w.frozen? ad = false) : Sto Try.prog ρ ⟨dst, .store 23 x y, ty, pos, af, g⟩ w (w.setCell ad v) := p_store hx hy hv inf23_eq inf23_size hc hf
theorem st65 {ad : Addr} {w : World} {v u : Value} (hx : ev ρ x = some (.pointer (some ad))) (hy : ev ρ y = some v) (hv : v.oneCell' = true) (hc : w.cell? ad = some u) (hf : w.frozen? ad = false) : Sto Try.prog ρ ⟨dst, .store 65 x y, ty, pos, af, g⟩ w (w.setCell ad v) := p_store hx hy hv inf65_eq inf65_size hc hf
theorem st49 {ad : Addr} {w : World} {v u : Value} (hx : ev ρ x = some (.pointer (some ad))) (hy : ev ρ y = some v) (hv : v.oneCell' = true) (hc : w.cell? ad = some u) (hf : w.frozen? ad = false) : Sto Try.prog ρ ⟨dst, .store 49 x y, ty, pos, af, g⟩ w (w.setCell ad v) := p_store hx hy hv inf49_eq inf49_size hc hf
theorem st5 {ad : Addr} {w : World} {v u : Value} (hx : ev ρ x = some (.pointer (some ad))) (hy : ev ρ y = some v) (hv : v.oneCell' = true) (hc : w.cell? ad = some u) (hf : w.frozen? ad = false) : Sto Try.prog ρ ⟨dst, .store 5 x y, ty, pos, af, g⟩ w (w.setCell ad v) := p_store hx hy hv inf5_eq inf5_size hc hf
theorem st26 {ad : Addr} {w : World} {v u : Value} (hx : ev ρ x = some (.pointer (some ad))) (hy : ev ρ y = some v) (hv : v.oneCell' = true) (hc : w.cell? ad = some u) (hf : w.frozen? ad = false) : Sto Try.prog ρ ⟨dst, .store 26 x y, ty, pos, af, g⟩ w (w.setCell ad v) := p_store hx hy hv inf26_eq inf26_size hc hf
end
end Go.Proofs.Ytcahhbcehnbdkaa.Eng

/- Walks of the small methods of a search. -/
namespace Go.Proofs.Ytcahhbcehnbdkaa.Sv
open Go.RowKit Go.Proofs.YtcahhbcehnbdkaaW.PrintWords Go.Proofs.YtcahhbcehnbdkaaW.PrintLast Go.Proofs.Ytcahhbcehnbdkaa.Eng

/-- The value of a literal. -/
def ofv (s : S) (l : Int) : Int := if l < 0 then -(rd s.value (-l)) else rd s.value l
theorem nums_at (k : IntKind) (xs : List Int) (i : Int) (h0 : 0 ≤ i) (h1 : i < xs.length) : (nums k xs)[i.toNat]? = some (.int k (rd xs i)) := by
  have : i.toNat < xs.length := by omega
  simp [nums, rd, List.getD_eq_getElem?_getD, List.getElem?_eq_getElem this]
theorem nums_some (k : IntKind) (xs : List Int) (i : Nat) (h1 : i < xs.length) : ∃ v, (nums k xs)[i]? = some v := by
  simp [nums, h1]
/-- The atom of a literal. -/
def av (l : Int) : Int := max l (-l)
def setS (s : S) (l r : Int) : S :=
  { s with value := s.value.set (av l).toNat (if l < 0 then -1 else 1), level := s.level.set (av l).toNat s.marks.length, reason := s.reason.set (av l).toNat r, trail := s.trail ++ [l] }

section
variable {w : World} {B g : Nat} {s s' : S} {V : Lay}

theorem Srch.storeValue (h : Srch w B g s V) {b n cap : Nat} {i : Nat} (x : Int) (hv : V .value = .slice (some ⟨b, 0, none⟩) n cap) (hi : i < n) :
    Srch (w.setCell ⟨b, i, none⟩ (.int .i8 x)) B g { s with value := s.value.set i x } V ∧ Goes g V w V (w.setCell ⟨b, i, none⟩ (.int .i8 x)) := by
  refine h.store (s' := { s with value := s.value.set i x }) .value hv hi _ (fun r' => ?_) rfl rfl rfl rfl
  cases r' <;> simp [C, nums, List.map_set]
theorem Srch.storeLevel (h : Srch w B g s V) {b n cap : Nat} {i : Nat} (x : Int) (hv : V .level = .slice (some ⟨b, 0, none⟩) n cap) (hi : i < n) :
    Srch (w.setCell ⟨b, i, none⟩ (.int .i64 x)) B g { s with level := s.level.set i x } V ∧ Goes g V w V (w.setCell ⟨b, i, none⟩ (.int .i64 x)) := by
  refine h.store (s' := { s with level := s.level.set i x }) .level hv hi _ (fun r' => ?_) rfl rfl rfl rfl
  cases r' <;> simp [C, nums, List.map_set]
theorem Srch.storeReason (h : Srch w B g s V) {b n cap : Nat} {i : Nat} (x : Int) (hv : V .reason = .slice (some ⟨b, 0, none⟩) n cap) (hi : i < n) :
    Srch (w.setCell ⟨b, i, none⟩ (.int .i64 x)) B g { s with reason := s.reason.set i x } V ∧ Goes g V w V (w.setCell ⟨b, i, none⟩ (.int .i64 x)) := by
  refine h.store (s' := { s with reason := s.reason.set i x }) .reason hv hi _ (fun r' => ?_) rfl rfl rfl rfl
  cases r' <;> simp [C, nums, List.map_set]

theorem own_one {w : World} {B n : Nat} {e : TypeId} {v : Value} {cs : List Value} (h : w.ownsRow B e 1 v n cs) : v.oneCell' = true := by
  obtain ⟨A, c, rfl⟩ := own_slice h
  rfl
theorem news1 (w : World) (x : Value) (t : TypeId) : ∀ j u, [x][j]? = some u → (w.alloc (.cells #[x] t)).cell? ((⟨w.heap.size, 0, none⟩ : Addr).add j) = some u := by
  intro j u hj
  cases j with
  | zero =>
    simp only [List.getElem?_cons_zero, Option.some.injEq] at hj
    subst hj
    rw [add_plain, cell_of_row _ _ _ _ _ _ (heap_alloc_new w _)]
    rfl
  | succ j => simp at hj
section
variable {ρ : Env} {dst : Option Tmp} {tp : TypeId} {pos : String} {af : Array Edge} {gd : Option (Nat × Bool)} {x y : Operand}
/-- What an append to one of its rows leaves. -/
structure Grew (w : World) (V : Lay) (r : Role) (B : Nat) (e : TypeId) (cs : List Value) (v1 : Value) (w1 : World) : Prop where
  own : w1.ownsRow B e 1 v1 cs.length cs
  fr : Fr (fun k => (V r).ownBlock = some k) w w1
  at_ : v1.ownBlock = (V r).ownBlock ∨ ∃ b, v1.ownBlock = some b ∧ w.heap.size ≤ b
theorem Srch.app3 (h : Srch w B g s V) (r : Role) (hr : ty r = 3) (hlen : (C s V r).length < 1099511627776) (i : Int) (hx : ev ρ x = some (V r)) (hy : ev ρ y = some (.slice (some ⟨w.heap.size, 0, none⟩) 1 1)) :
    ∃ v1 w1, Val Try.prog ρ ⟨dst, .call { callee := .builtin .append, args := #[x, y], argTypes := #[41, 41] }, tp, pos, af, gd⟩ (w.alloc (.cells #[.int .i64 i] 3)) v1 w1 ∧ Grew w V r B 3 (C s V r ++ [.int .i64 i]) v1 w1 := by
  have hB : B ≤ (w.alloc (.cells #[.int .i64 i] 3)).heap.size := by have := h.lt (k := g) (.inl rfl); have := h.gB; simp; omega
  have hown := (h.own r).alloc (.cells #[.int .i64 i] 3)
  rw [hr] at hown
  obtain ⟨v1, w1, h1, h2, h3, h4⟩ := app41 (ρ := ρ) (dst := dst) (ty := tp) (pos := pos) (af := af) (g := gd) hx hy hown (news := [.int .i64 i]) rfl (news1 w _ _) (by simp [Value.oneCell']) (by omega) hB
  refine ⟨v1, w1, h1, ⟨by simpa using h2, ((Fr.refl _ w).alloc _).grown h3 (fun k hk => .inl hk), ?_⟩⟩
  rcases h4 with h4 | ⟨b, h4, h5⟩
  · exact .inl h4
  · exact .inr ⟨b, h4, by simp at h5; omega⟩
theorem Srch.app41 (h : Srch w B g s V) (r : Role) (hr : ty r = 41) (hlen : (C s V r).length < 1099511627776) (u : Value) (hu : u.oneCell' = true) (hx : ev ρ x = some (V r)) (hy : ev ρ y = some (.slice (some ⟨w.heap.size, 0, none⟩) 1 1)) :
    ∃ v1 w1, Val Try.prog ρ ⟨dst, .call { callee := .builtin .append, args := #[x, y], argTypes := #[22, 22] }, tp, pos, af, gd⟩ (w.alloc (.cells #[u] 41)) v1 w1 ∧ Grew w V r B 41 (C s V r ++ [u]) v1 w1 := by
  have hB : B ≤ (w.alloc (.cells #[u] 41)).heap.size := by have := h.lt (k := g) (.inl rfl); have := h.gB; simp; omega
  have hown := (h.own r).alloc (.cells #[u] 41)
  rw [hr] at hown
  obtain ⟨v1, w1, h1, h2, h3, h4⟩ := app22 (ρ := ρ) (dst := dst) (ty := tp) (pos := pos) (af := af) (g := gd) hx hy hown (news := [u]) rfl (news1 w _ _) (by simpa using hu) (by omega) hB
  refine ⟨v1, w1, h1, ⟨by simpa using h2, ((Fr.refl _ w).alloc _).grown h3 (fun k hk => .inl hk), ?_⟩⟩
  rcases h4 with h4 | ⟨b, h4, h5⟩
  · exact .inl h4
  · exact .inr ⟨b, h4, by simp at h5; omega⟩
end
/-- Any of the plain rows takes what an append left. -/
theorem Srch.grew (h : Srch w B g s V) (r : Role) (j : Nat) {v1 : Value} {w1 : World} {cs : List Value} (hg : Grew w V r B (ty r) cs v1 w1)
    (hs : cellsS s' (upd V r v1) = (cellsS s V).setIfInBounds j v1) (hC : ∀ r', r' ≠ r → C s' (upd V r v1) r' = C s V r') (hCr : C s' (upd V r v1) r = cs)
    (hc : s'.clauses.length = s.clauses.length) (hw : s'.watch.length = s.watch.length) (hp : s'.proof.length = s.proof.length)
    (hr : ∀ i, r ≠ .clause i ∧ r ≠ .wrow i ∧ r ≠ .prow i) :
    Srch (w1.setCell ⟨g, j, none⟩ v1) B g s' (upd V r v1) ∧ Goes g V w (upd V r v1) (w1.setCell ⟨g, j, none⟩ v1) :=
  h.turn r j v1 cs hg.own hg.fr (.inr hg.at_) hs hC hCr hc hw hp hr
/-- The struct is where it was behind an append. -/
theorem Srch.objG (h : Srch w B g s V) {r : Role} {e : TypeId} {cs : List Value} {v1 : Value} {w1 : World} (hg : Grew w V r B e cs v1 w1) : w1.heap[g]? = some (.cells (cellsS s V) 67 (0, 0)) :=
  (hg.fr.block g (h.lt (.inl rfl)) (h.gne r)).trans h.obj
theorem Srch.pushTrail {w1 : World} (h : Srch w B g s V) (l : Int) {v1 : Value} (hg : Grew w V .trail B 3 (C s V .trail ++ [.int .i64 l]) v1 w1) :
    Srch (w1.setCell ⟨g, 7, none⟩ v1) B g { s with trail := s.trail ++ [l] } (upd V .trail v1) ∧ Goes g V w (upd V .trail v1) (w1.setCell ⟨g, 7, none⟩ v1) := by
  refine h.grew (s' := { s with trail := s.trail ++ [l] }) .trail 7 hg ?_ (fun r' hr => ?_) ?_ rfl rfl rfl (fun i => ⟨by simp, by simp, by simp⟩)
  · simp [cellsS, upd]
  · cases r' <;> simp_all [C, upd]
  · simp [C, nums]
theorem set_calls (h : Srch w B g s V) (l r : Int) (h1 : -(s.value.length : Int) < l) (h2 : l < s.value.length) (hle : s.level.length = s.value.length) (hre : s.reason.length = s.value.length)
    (ht : s.trail.length < 1099511627776) :
    Calls Try.prog 46 #[.pointer (some ⟨g, 0, none⟩), .int .i64 l, .int .i64 r] w fun e w' => e = .returned (.tuple #[]) ∧ ∃ v', Srch w' B g (setS s l r) (upd V .trail v') ∧ Goes g V w (upd V .trail v') w' := by
  have hlv : (C s V .value).length = s.value.length := by simp [C, nums]
  have hll : (C s V .level).length = s.value.length := by simp [C, nums, hle]
  have hlr : (C s V .reason).length = s.value.length := by simp [C, nums, hre]
  have hlm : (C s V .marks).length = s.marks.length := by simp [C, nums]
  have hlt : (C s V .trail).length = s.trail.length := by simp [C, nums]
  obtain ⟨b, cap, hb, _, _, hbg, hcap, hm, hfz⟩ := h.form .value (by rw [hlv]; omega)
  obtain ⟨bl, capl, hbl, _, _, hblg, _, _, hfl⟩ := h.form .level (by rw [hll]; omega)
  obtain ⟨br, capr, hbr, _, _, hbrg, _, _, hfr⟩ := h.form .reason (by rw [hlr]; omega)
  obtain ⟨Am, capm, hbm, _, hmm⟩ := h.slice .marks
  obtain ⟨At, capt, hbt, _, hmt⟩ := h.slice .trail
  rw [hlv] at hb
  rw [hll] at hbl
  rw [hlr] at hbr
  rw [hlm] at hbm
  rw [hlt] at hbt
  have ha0 : 0 ≤ av l := by unfold av; omega
  have ha1 : av l < s.value.length := by unfold av; omega
  have hav : max l (-l) = av l := rfl
  refine calls_of_FC (N := 53) (vs := [.pointer (some ⟨g, 0, none⟩), .int .i64 l, .int .i64 r]) Try.func46 rfl Try.ntmps46 (Nat.le_of_ble_eq_true rfl) ?_
  refine FC.seq (FC.region ?_)
  refine mv_ rfl rfl rfl ?_
  refine mv_ rfl rfl rfl ?_
  refine FL.pur rfl rfl (p_neg rfl (wr (by omega) (by omega))) ?_
  refine FL.pur rfl rfl (p_max rfl rfl hav) ?_
  refine sg_ rfl rfl rfl ?_
  refine FL.nilK ?_
  obtain ⟨yv, hyv⟩ := nums_some .i8 s.value (av l).toNat (by omega)
  refine FC.seq (FC.region ?_)
  refine mv_ rfl rfl rfl ?_
  refine FL.pur rfl rfl (p_nilCheck rfl) ?_
  refine FL.pur rfl rfl (fld67_3 rfl) ?_
  refine FL.val _ _ rfl rfl (p_load rfl Try.underlying65 rfl (cellEq h.f_value hb)) ?_
  refine mv_ rfl rfl rfl ?_
  refine FL.pur rfl rfl (idx65 rfl rfl ha0 ha1) ?_
  refine FL.stoG (fun w1 => Srch w1 B g { s with value := s.value.set (av l).toNat 1 } V ∧ Goes g V w V w1) rfl (st53 rfl rfl rfl (h.cell .value hb _ hyv) (hfz _)) (h.storeValue 1 hb (by omega)) ?_
  rintro w1 ⟨k1, G1⟩
  refine FL.nilK ?_
  refine FC.cut (σ := Lay × Value × Value) (fun _ => [(0, .pointer (some ⟨g, 0, none⟩)), (1, .int .i64 l), (2, .int .i64 r), (6, .int .i64 (av l))]) (fun _ w2 => Srch w2 B g { s with value := s.value.set (av l).toNat (if l < 0 then -1 else 1) } V ∧ Goes g V w V w2) ?_ ?_
  · refine FC.seq (FC.region ?_)
    refine mv_ rfl rfl rfl ?_
    refine FL.pur rfl rfl (p_lss rfl rfl rfl) ?_
    refine FL.nilK ?_
    refine FC.cond (decide (l < 0)) rfl (fun hc => ?_) (fun hc => ?_)
    · have hl : l < 0 := of_decide_eq_true hc
      obtain ⟨yv, hyv⟩ := nums_some .i8 (s.value.set (av l).toNat 1) (av l).toNat (by simp; omega)
      refine FC.region ?_
      refine mv_ rfl rfl rfl ?_
      refine FL.pur rfl rfl (p_nilCheck rfl) ?_
      refine FL.pur rfl rfl (fld67_3 rfl) ?_
      refine FL.val _ _ rfl rfl (p_load rfl Try.underlying65 rfl (cellEq k1.f_value hb)) ?_
      refine mv_ rfl rfl rfl ?_
      refine FL.pur rfl rfl (idx65 rfl rfl ha0 ha1) ?_
      refine FL.stoG (fun w1 => Srch w1 B g { s with value := s.value.set (av l).toNat (if l < 0 then -1 else 1) } V ∧ Goes g V w V w1) rfl (st53 rfl rfl rfl (k1.cell .value hb _ hyv) (k1.unfr .value hb _)) (by have := k1.storeValue (-1) hb (i := (av l).toNat) (by omega); simp only [List.set_set] at this; rw [if_pos hl]; exact ⟨this.1, G1.trans this.2⟩) ?_
      rintro w1 ⟨k1, G1⟩
      refine FL.nil ?_
      exact ⟨default, ⟨rfl, rfl, rfl, rfl, trivial⟩, k1, G1⟩
    · have hl : ¬ l < 0 := of_decide_eq_false hc
      refine FC.skip ?_
      refine ⟨default, ⟨rfl, rfl, rfl, rfl, trivial⟩, ?_, G1⟩
      rw [if_neg hl]; exact k1
  · rintro _ w2 ⟨h2, G2⟩
    have hlm : s.marks.length = s.marks.length := rfl
    obtain ⟨yl, hyl⟩ := nums_some .i64 s.level (av l).toNat (by omega)
    obtain ⟨yr, hyr⟩ := nums_some .i64 s.reason (av l).toNat (by omega)
    refine FC.seq (FC.draw (fun w => w.cell? ⟨g, 4, none⟩ = some (.slice (some ⟨bl, 0, none⟩) s.value.length capl) ∧ w.cell? ⟨g, 5, none⟩ = some (.slice (some ⟨br, 0, none⟩) s.value.length capr) ∧ w.cell? ⟨g, 8, none⟩ = some (.slice Am s.marks.length capm)) [17, 19] (bA 20 0) (by kernel_rfl) rfl rfl ⟨cellEq h2.drew.f_level hbl, cellEq h2.drew.f_reason hbr, cellEq h2.drew.f_marks hbm⟩ ?_)
    refine FA.pur (i := 0) (bA 20 1) rfl (by kernel_rfl) rfl rfl (p_move rfl) ?_
    refine FA.pur (i := 1) (bA 20 3) rfl (by kernel_rfl) rfl rfl (p_nilCheck rfl) ?_
    refine FA.pur (i := 2) (bA 20 7) rfl (by kernel_rfl) rfl rfl (fld67_4 rfl) ?_
    refine FA.pur (i := 4) (bA 20 23) rfl (by kernel_rfl) rfl rfl (p_move rfl) ?_
    refine FA.pur (i := 5) (bA 20 55) rfl (by kernel_rfl) rfl rfl (p_move rfl) ?_
    refine FA.pur (i := 6) (bA 20 119) rfl (by kernel_rfl) rfl rfl (p_nilCheck rfl) ?_
    refine FA.pur (i := 7) (bA 20 247) rfl (by kernel_rfl) rfl rfl (fld67_5 rfl) ?_
    refine FA.pur (i := 9) (bA 20 759) rfl (by kernel_rfl) rfl rfl (p_move rfl) ?_
    refine FA.pur (i := 10) (bA 20 1783) rfl (by kernel_rfl) rfl rfl (p_move rfl) ?_
    refine FA.pur (i := 11) (bA 20 3831) rfl (by kernel_rfl) rfl rfl (p_nilCheck rfl) ?_
    refine FA.pur (i := 12) (bA 20 7927) rfl (by kernel_rfl) rfl rfl (fld67_8 rfl) ?_
    refine FA.pur (i := 15) (bA 20 40695) rfl (by kernel_rfl) rfl rfl (p_move rfl) ?_
    refine FA.lod (i := 3) (bA 20 40703) rfl (by kernel_rfl) rfl rfl ⟨cellEq h2.drew.f_level hbl, cellEq h2.drew.f_reason hbr, cellEq h2.drew.f_marks hbm⟩ (fun _ hs => p_load rfl Try.underlying41 rfl hs.1) ?_
    refine FA.lod (i := 8) (bA 20 40959) rfl (by kernel_rfl) rfl rfl ⟨cellEq h2.drew.f_level hbl, cellEq h2.drew.f_reason hbr, cellEq h2.drew.f_marks hbm⟩ (fun _ hs => p_load rfl Try.underlying41 rfl hs.2.1) ?_
    refine FA.lod (i := 13) (bA 20 49151) rfl (by kernel_rfl) rfl rfl ⟨cellEq h2.drew.f_level hbl, cellEq h2.drew.f_reason hbr, cellEq h2.drew.f_marks hbm⟩ (fun _ hs => p_load rfl Try.underlying41 rfl hs.2.2) ?_
    refine FA.pur (i := 14) (bA 20 65535) rfl (by kernel_rfl) rfl rfl (p_len rfl Try.underlying41) ?_
    refine FA.pur (i := 16) (bA 20 131071) rfl (by kernel_rfl) rfl rfl (idx41 rfl rfl ha0 ha1) ?_
    refine FA.lastS (i := 17) _ (bA 20 262143) rfl (by kernel_rfl) (by decide) rfl (st3 rfl rfl rfl (h2.drew.cell .level hbl _ hyl) (h2.drew.unfr .level hbl _)) ?_
    obtain ⟨h3, G3⟩ := h2.drew.storeLevel (i := (av l).toNat) s.marks.length hbl (by omega)
    refine FA.pur (i := 18) (bA 20 524287) rfl (by kernel_rfl) rfl rfl (idx41 rfl rfl ha0 ha1) ?_
    refine FA.lastS (i := 19) _ (bA 20 1048575) rfl (by kernel_rfl) (by decide) rfl (st3 rfl rfl rfl (h3.cell .reason hbr _ hyr) (h3.unfr .reason hbr _)) ?_
    obtain ⟨h4, G4⟩ := h3.storeReason (i := (av l).toNat) r hbr (by omega)
    refine FA.doneK (by kernel_rfl) ?_
    have G5 := (G2.drew.trans G3).trans G4
    clear G2 G3 G4 h2 h3
    refine FC.region ?_
    refine mv_ rfl rfl rfl ?_
    refine mv_ rfl rfl rfl ?_
    refine FL.pur rfl rfl (p_nilCheck rfl) ?_
    refine FL.pur rfl rfl (fld67_7 rfl) ?_
    refine FL.val _ _ rfl rfl (p_load rfl Try.underlying41 rfl h4.f_trail) ?_
    refine mv_ rfl rfl rfl ?_
    refine FL.val _ _ rfl rfl (bld41 rfl rfl) ?_
    refine FL.valG _ rfl rfl (h4.app3 .trail rfl (by simp [C, nums]; omega) l rfl rfl) ?_
    intro v1 w6 hg
    refine FL.pur rfl rfl (p_nilCheck rfl) ?_
    refine FL.pur rfl rfl (fld67_7 rfl) ?_
    obtain ⟨h6, G6⟩ := h4.pushTrail l hg
    refine FL.sto _ rfl (st41 rfl rfl (own_one hg.own) (cell_of_row _ _ 7 _ _ _ (h4.objG hg)) (blk_frozen (h4.objG hg) 7)) ?_
    refine FL.nil ?_
    exact end0 Try.results46 ⟨rfl, _, h6, G5.trans G6⟩
end
end Go.Proofs.Ytcahhbcehnbdkaa.Sv

/- Walks of of, code and undo. -/
namespace Go.Proofs.Ytcahhbcehnbdkaa.Sv
open Go.RowKit Go.Proofs.YtcahhbcehnbdkaaW.PrintWords Go.Proofs.YtcahhbcehnbdkaaW.PrintLast Go.Proofs.Ytcahhbcehnbdkaa.Eng

theorem rd_mem (xs : List Int) (i : Int) (h0 : 0 ≤ i) (h1 : i < xs.length) : rd xs i ∈ xs := by
  have : i.toNat < xs.length := by omega
  simp [rd, List.getD_eq_getElem?_getD, List.getElem?_eq_getElem this]
/-- Values are -1, 0 and 1. -/
def Small (xs : List Int) : Prop := ∀ x ∈ xs, -1 ≤ x ∧ x ≤ 1
def codeL (l : Int) : Int := if l < 0 then -2 * l + 1 else 2 * l

theorem code_calls (l : Int) (w : World) (h1 : -4611686018427387903 ≤ l) (h2 : l < 4611686018427387904) :
    Calls Try.prog 47 #[.int .i64 l] w fun e w' => e = .returned (.int .i64 (codeL l)) ∧ w = w' := by
  refine calls_of_FC (N := 10) (vs := [.int .i64 l]) Try.func47 rfl Try.ntmps47 (Nat.le_of_ble_eq_true rfl) ?_
  refine FC.seq (FC.region ?_)
  refine sg_ rfl rfl rfl ?_
  refine FL.nilK ?_
  refine FC.cut (σ := Unit) (fun _ => [(0, .int .i64 l)]) (fun _ w2 => w2 = w ∧ 0 ≤ l) ?_ ?_
  · refine FC.seq (FC.region ?_)
    refine mv_ rfl rfl rfl ?_
    refine FL.pur rfl rfl (p_lss rfl rfl rfl) ?_
    refine FL.nilK ?_
    refine FC.cond (decide (l < 0)) rfl (fun hc => ?_) (fun hc => ?_)
    · have hl : l < 0 := of_decide_eq_true hc
      refine FC.seq (FC.region ?_)
      refine mv_ rfl rfl rfl ?_
      refine FL.pur rfl rfl (p_mul rfl rfl (wr (by omega) (by omega))) ?_
      refine FL.pur rfl rfl (p_add rfl rfl (wr (by omega) (by omega))) ?_
      refine sg_ rfl rfl rfl ?_
      refine FL.nilK ?_
      refine FC.ret ?_
      repeat with_reducible first | refine thn_ret ?_ | refine blk_ret ?_ | refine nog_ret ?_
      exact ret1 Try.results47 rfl ⟨by unfold codeL; rw [if_pos hl], rfl⟩
    · have hl : ¬ l < 0 := of_decide_eq_false hc
      refine FC.skip ?_
      exact ⟨(), ⟨rfl, trivial⟩, rfl, by omega⟩
  · rintro _ w2 ⟨rfl, hl⟩
    refine FC.seq (FC.region ?_)
    refine mv_ rfl rfl rfl ?_
    refine FL.pur rfl rfl (p_mul rfl rfl (wr (by omega) (by omega))) ?_
    refine sg_ rfl rfl rfl ?_
    refine FL.nilK ?_
    refine FC.ret ?_
    repeat with_reducible first | refine thn_ret ?_ | refine blk_ret ?_ | refine nog_ret ?_
    exact ret1 Try.results47 rfl ⟨by unfold codeL; rw [if_neg (by omega)], rfl⟩

section
variable {w : World} {B g : Nat} {s s' : S} {V : Lay}

theorem of_calls (h : Srch w B g s V) (l : Int) (h1 : -(s.value.length : Int) < l) (h2 : l < s.value.length) (hv : Small s.value) :
    Calls Try.prog 33 #[.pointer (some ⟨g, 0, none⟩), .int .i64 l] w fun e w' => e = .returned (.int .i8 (ofv s l)) ∧ w = w' := by
  have hlen : (C s V .value).length = s.value.length := by simp [C, nums]
  obtain ⟨b, cap, hb, _, _, hbg, hcap, hm, hfz⟩ := h.form .value (by rw [hlen]; omega)
  rw [hlen] at hb hcap
  refine calls_of_FC (N := 23) (vs := [.pointer (some ⟨g, 0, none⟩), .int .i64 l]) Try.func33 rfl Try.ntmps33 (Nat.le_of_ble_eq_true rfl) ?_
  refine FC.seq (FC.region ?_)
  refine sg_ rfl rfl rfl ?_
  refine FL.nilK ?_
  refine FC.cut (σ := Unit) (fun _ => [(0, .pointer (some ⟨g, 0, none⟩)), (1, .int .i64 l)]) (fun _ w2 => w2 = w ∧ 0 ≤ l) ?_ ?_
  · refine FC.seq (FC.region ?_)
    refine mv_ rfl rfl rfl ?_
    refine FL.pur rfl rfl (p_lss rfl rfl rfl) ?_
    refine FL.nilK ?_
    refine FC.cond (decide (l < 0)) rfl (fun hc => ?_) (fun hc => ?_)
    · have hl : l < 0 := of_decide_eq_true hc
      have hx := hv _ (rd_mem s.value (-l) (by omega) (by omega))
      refine FC.seq (FC.region ?_)
      refine mv_ rfl rfl rfl ?_
      refine FL.pur rfl rfl (p_nilCheck rfl) ?_
      refine FL.pur rfl rfl (fld67_3 rfl) ?_
      refine FL.val _ _ rfl rfl (p_load rfl Try.underlying65 rfl (cellEq h.f_value hb)) ?_
      refine mv_ rfl rfl rfl ?_
      refine FL.pur rfl rfl (p_neg rfl (wr (by omega) (by omega))) ?_
      refine FL.pur rfl rfl (idx65 rfl rfl (by omega) (by omega)) ?_
      refine FL.val _ _ rfl rfl (p_load rfl Try.underlying53 rfl (h.cell .value hb _ (nums_at .i8 s.value (-l) (by omega) (by omega)))) ?_
      refine FL.pur rfl rfl (p_neg rfl (wr8 (by omega) (by omega))) ?_
      refine sg_ rfl rfl rfl ?_
      refine FL.nilK ?_
      refine FC.ret ?_
      repeat with_reducible first | refine thn_ret ?_ | refine blk_ret ?_ | refine nog_ret ?_
      exact ret1 Try.results33 rfl ⟨by unfold ofv; rw [if_pos hl], rfl⟩
    · have hl : ¬ l < 0 := of_decide_eq_false hc
      refine FC.skip ?_
      exact ⟨(), ⟨rfl, rfl, trivial⟩, rfl, by omega⟩
  · rintro _ w2 ⟨rfl, hl⟩
    refine FC.seq (FC.region ?_)
    refine mv_ rfl rfl rfl ?_
    refine FL.pur rfl rfl (p_nilCheck rfl) ?_
    refine FL.pur rfl rfl (fld67_3 rfl) ?_
    refine FL.val _ _ rfl rfl (p_load rfl Try.underlying65 rfl (cellEq h.f_value hb)) ?_
    refine mv_ rfl rfl rfl ?_
    refine FL.pur rfl rfl (idx65 rfl rfl (by omega) (by omega)) ?_
    refine FL.val _ _ rfl rfl (p_load rfl Try.underlying53 rfl (h.cell .value hb _ (nums_at .i8 s.value l (by omega) (by omega)))) ?_
    refine sg_ rfl rfl rfl ?_
    refine FL.nilK ?_
    refine FC.ret ?_
    repeat with_reducible first | refine thn_ret ?_ | refine blk_ret ?_ | refine nog_ret ?_
    exact ret1 Try.results33 rfl ⟨by unfold ofv; rw [if_neg (by omega)], rfl⟩
end
end Go.Proofs.Ytcahhbcehnbdkaa.Sv

/- How single stores, appends and reslicings turn a search. -/
namespace Go.Proofs.Ytcahhbcehnbdkaa.Sv
open Go.RowKit Go.Proofs.YtcahhbcehnbdkaaW.PrintWords Go.Proofs.YtcahhbcehnbdkaaW.PrintLast Go.Proofs.Ytcahhbcehnbdkaa.Eng
section
variable {w w1 : World} {B g : Nat} {s s' : S} {V : Lay}

theorem Srch.lenC (h : Srch w B g s V) (r : Role) {A : Option Addr} {n c : Nat} (hv : V r = .slice A n c) : (C s V r).length = n := by
  obtain ⟨A', c', e, _⟩ := h.slice r
  rw [hv] at e; injection e with _ e; exact e.symm

/-- The first k elements of a row, the world being as it was. -/
theorem Srch.grewTake (h : Srch w B g s V) (r : Role) {A : Option Addr} {n c k : Nat} (hv : V r = .slice A n c) (hk : k ≤ n) : Grew w V r B (ty r) ((C s V r).take k) (.slice A k c) w := by
  have hn := h.lenC r hv
  refine ⟨⟨by simp, ?_⟩, Fr.refl _ _, .inl ?_⟩
  · rcases (h.own r).2 with ⟨h0, h1⟩ | ⟨q, cap, cur, hq, hb, hh, hc, hm, hs, ht⟩
    · rw [hv] at h0
      injection h0 with h0 h2 h3
      subst h0; subst h3
      refine .inl ⟨by rw [show k = 0 by omega], by simp; omega⟩
    · rw [hv] at hq
      injection hq with h0 h2 h3
      subst h0; subst h3
      refine .inr ⟨q, c, cur, by simp; omega, hb, hh, by simp; omega, hm, hs, ?_⟩
      rw [List.length_take]
      conv => rhs; rw [← ht, List.take_take]
      congr 1
      omega
  · rw [hv]; cases A <;> rfl

/-- A row that hangs in another row takes another value. -/
theorem Srch.turnIn (h : Srch w B g s V) (r ro : Role) (q : Nat) {v1 : Value} {cs : List Value} (hg : Grew w V r B (ty r) cs v1 w1) {bo no co : Nat} (hvo : V ro = .slice (some ⟨bo, 0, none⟩) no co) (hq : q < no) (hne : ro ≠ r)
    (hs : cellsS s' (upd V r v1) = cellsS s V) (hC : ∀ r', r' ≠ r → r' ≠ ro → C s' (upd V r v1) r' = C s V r') (hCr : C s' (upd V r v1) r = cs) (hCo : C s' (upd V r v1) ro = (C s V ro).set q v1)
    (hc : s'.clauses.length = s.clauses.length) (hw : s'.watch.length = s.watch.length) (hp : s'.proof.length = s.proof.length)
    (hr : ∀ i, (r = .clause i → i < s.clauses.length) ∧ (r = .wrow i → i < s.watch.length) ∧ (r = .prow i → i < s.proof.length)) :
    Srch (w1.setCell ⟨bo, q, none⟩ v1) B g s' (upd V r v1) ∧ Goes g V w (upd V r v1) (w1.setCell ⟨bo, q, none⟩ v1) := by
  have hno := h.lenC ro hvo
  have hlt := h.lt (k := g) (.inl rfl)
  have hgr : ¬ (V r).ownBlock = some g := h.gne r
  have hbo : (V ro).ownBlock = some bo := by rw [hvo]; rfl
  have hbog : bo ≠ g := fun e => h.gne ro (by rw [hbo, e])
  have hobj : w1.heap[g]? = some (.cells (cellsS s V) 67 (0, 0)) := (hg.fr.block g hlt hgr).trans h.obj
  have hv1 : v1.ownBlock ≠ some g := by
    rcases hg.at_ with e | ⟨b, e, hb⟩
    · rw [e]; exact hgr
    · rw [e]; intro e'; injection e' with e'; omega
  have hne' : ∀ r', r' ≠ r → ∀ k, (V r').ownBlock = some k → v1.ownBlock ≠ some k := by
    intro r' hr' k hk e'
    rcases hg.at_ with e | ⟨b, e, hb⟩
    · rw [e] at e'; exact hr' (h.inj r' r k hk e')
    · have := h.lt (k := k) (.inr ⟨r', hk⟩)
      rw [e] at e'; injection e' with e'; omega
  have hv1bo : v1.ownBlock ≠ some bo := hne' ro hne bo hbo
  have hown' : ∀ r', r' ≠ r → w1.ownsRow B (ty r') 1 (V r') (C s V r').length (C s V r') := fun r' e =>
    ownsRow_same (h.own r') fun k hk => hg.fr.block k (h.lt (.inr ⟨r', hk⟩)) fun e' => e (h.inj r' r k hk e')
  refine ⟨⟨fun r' => ?_, fun r1 r2 k h1 h2 => ?_, ?_, h.gB, fun r' => ?_, fun i hi => ?_, fun i hi => ?_, fun i hi => ?_⟩, ⟨⟨hg.fr.os, hg.fr.tape, hg.fr.output, by rw [setCell_size]; exact hg.fr.size, fun k hk hn => ?_⟩, fun k hk => ?_⟩⟩
  · by_cases e : r' = r
    · subst e
      rw [hCr, upd_self]
      exact ownsRow_same hg.own fun k hk => Below.heap_setCell w1 _ _ k fun e' => hv1bo (by rw [hk]; rw [e'])
    · rw [upd_ne V v1 e]
      by_cases e2 : r' = ro
      · subst e2
        rw [hCo, List.length_set]
        exact ownsRow_set (hown' r' e) (by rw [hno]; exact hvo) q (by omega) v1
      · rw [hC r' e e2]
        refine ownsRow_same (hown' r' e) fun k hk => Below.heap_setCell w1 _ _ k fun e' => e2 (h.inj r' ro k hk (by rw [hbo, e']))
  · by_cases e1 : r1 = r <;> by_cases e2 : r2 = r
    · rw [e1, e2]
    · subst e1
      rw [upd_self] at h1
      rw [upd_ne V v1 e2] at h2
      exact absurd h1 (hne' r2 e2 k h2)
    · subst e2
      rw [upd_self] at h2
      rw [upd_ne V v1 e1] at h1
      exact absurd h2 (hne' r1 e1 k h1)
    · rw [upd_ne V v1 e1] at h1
      rw [upd_ne V v1 e2] at h2
      exact h.inj r1 r2 k h1 h2
  · rw [hs, Below.heap_setCell w1 _ _ g hbog.symm]
    exact hobj
  · by_cases e : r' = r
    · subst e; rw [upd_self]; exact hv1
    · rw [upd_ne V v1 e]; exact h.gne r'
  · rw [upd_ne V v1 fun e => by have := (hr i).1 e.symm; omega]; exact h.vc i (by omega)
  · rw [upd_ne V v1 fun e => by have := (hr i).2.1 e.symm; omega]; exact h.vw i (by omega)
  · rw [upd_ne V v1 fun e => by have := (hr i).2.2 e.symm; omega]; exact h.vp i (by omega)
  · rw [Below.heap_setCell w1 _ _ k fun e => hn (.inr ⟨ro, by rw [hbo, e]⟩)]
    exact hg.fr.block k hk fun e => hn (.inr ⟨r, e⟩)
  · rcases hk with rfl | ⟨r', hk⟩
    · exact .inl (.inl rfl)
    · by_cases e : r' = r
      · subst e
        rw [upd_self] at hk
        rcases hg.at_ with e | ⟨b, e, hb⟩
        · rw [e] at hk; exact .inl (.inr ⟨r', hk⟩)
        · rw [e] at hk; injection hk with hk; exact .inr (hk ▸ hb)
      · rw [upd_ne V v1 e] at hk; exact .inl (.inr ⟨r', hk⟩)

/-- A row of whole numbers that nobody of the search owns. -/
structure Own (w : World) (B g : Nat) (V : Lay) (v : Value) (c : List Int) : Prop where
  own : w.ownsRow B 3 1 v c.length (nums .i64 c)
  apart : ∀ k, v.ownBlock = some k → ¬ foot g V k
theorem Own.lt {v : Value} {c : List Int} (h : Own w B g V v c) {k : Nat} (hk : v.ownBlock = some k) : k < w.heap.size := (h.own.lt k hk).2
theorem Own.ge {v : Value} {c : List Int} (h : Own w B g V v c) {k : Nat} (hk : v.ownBlock = some k) : B ≤ k := (h.own.lt k hk).1
theorem Own.goes {V' : Lay} {w' : World} {v : Value} {c : List Int} (h : Own w B g V v c) (hg : Goes g V w V' w') : Own w' B g V' v c :=
  ⟨ownsRow_same h.own fun k hk => hg.fr.block k (h.lt hk) (h.apart k hk), fun k hk hf => by
    rcases hg.sub k hf with h1 | h1
    · exact h.apart k hk h1
    · have := h.lt hk; omega⟩
theorem Own.cell {v : Value} {c : List Int} (h : Own w B g V v c) {b n cap : Nat} (hv : v = .slice (some ⟨b, 0, none⟩) n cap) (i : Int) (h0 : 0 ≤ i) (h1 : i < c.length) : w.cell? ⟨b, i.toNat, none⟩ = some (.int .i64 (rd c i)) := by
  have := h.own.cells (g := b) (by rw [hv]; rfl) i.toNat _ (nums_at .i64 c i h0 h1)
  rwa [add_plain] at this
theorem Own.form {v : Value} {c : List Int} (h : Own w B g V v c) (hn : 0 < c.length) : ∃ b cap, v = .slice (some ⟨b, 0, none⟩) c.length cap ∧ c.length ≤ cap ∧ cap ≤ maxLen := by
  rcases h.own.2 with ⟨_, h0⟩ | ⟨q, cap, cur, hv, hb, hh, hc, hm, _, _⟩
  · omega
  · exact ⟨q, cap, hv, hc, hm⟩
theorem Own.slice {v : Value} {c : List Int} (h : Own w B g V v c) : ∃ A cap, v = .slice A c.length cap ∧ c.length ≤ cap ∧ cap ≤ maxLen := by
  rcases h.own.2 with ⟨hv, h0⟩ | ⟨q, cap, cur, hv, hb, hh, hc, hm, _, _⟩
  · exact ⟨none, 0, by rw [hv, h0], by omega, by simp [maxLen]⟩
  · exact ⟨_, cap, hv, hc, hm⟩

theorem rowsOf_congr {V V' : Nat → Value} {n : Nat} (h : ∀ i, i < n → V i = V' i) : rowsOf V n = rowsOf V' n := by
  unfold rowsOf
  exact List.map_congr_left fun i hi => h i (by simpa using hi)
theorem rowsOf_succ (V : Nat → Value) (n : Nat) : rowsOf V (n + 1) = rowsOf V n ++ [V n] := by simp [rowsOf, List.range_succ]
theorem rowsOf_set (V : Nat → Value) (n q : Nat) (v : Value) : (rowsOf V n).set q v = rowsOf (fun i => if i = q then v else V i) n := by
  apply List.ext_getElem
  · simp [rowsOf]
  · intro i h1 h2
    simp [rowsOf, List.getElem_set]
    by_cases e : q = i
    · simp [e]
    · rw [if_neg e, if_neg (fun h => e h.symm)]

/-- A clause is put behind the clauses. -/
theorem Srch.pushClause (h : Srch w B g s V) {v : Value} {c : List Int} (ho : Own w B g V v c) {v1 : Value} (hg : Grew w V .clauses B 41 (C s V .clauses ++ [v]) v1 w1) :
    Srch (w1.setCell ⟨g, 1, none⟩ v1) B g { s with clauses := s.clauses ++ [c] } (upd (upd V .clauses v1) (.clause s.clauses.length) v) ∧
      (∀ k, foot g (upd (upd V .clauses v1) (.clause s.clauses.length) v) k → foot g V k ∨ v.ownBlock = some k ∨ w.heap.size ≤ k) ∧ Fr (foot g V) w (w1.setCell ⟨g, 1, none⟩ v1) := by
  obtain ⟨V1, hV1⟩ : ∃ V1, upd V .clauses v1 = V1 := ⟨_, rfl⟩
  obtain ⟨V2, hV2⟩ : ∃ V2, upd V1 (.clause s.clauses.length) v = V2 := ⟨_, rfl⟩
  have e1 : V1 .clauses = v1 := by rw [← hV1, upd_self]
  have e2 : ∀ r, r ≠ .clauses → V1 r = V r := fun r hr => by rw [← hV1, upd_ne V v1 hr]
  have e3 : V2 (.clause s.clauses.length) = v := by rw [← hV2, upd_self]
  have e4 : ∀ r, r ≠ .clause s.clauses.length → V2 r = V1 r := fun r hr => by rw [← hV2, upd_ne V1 v hr]
  rw [hV1, hV2]
  have hlt := h.lt (k := g) (.inl rfl)
  have hgr : ¬ (V .clauses).ownBlock = some g := h.gne _
  have hobj := h.objG hg
  have hv1 : ∀ k, v1.ownBlock = some k → (V .clauses).ownBlock = some k ∨ w.heap.size ≤ k := by
    intro k hk
    rcases hg.at_ with e | ⟨b, e, hb⟩
    · exact .inl (by rw [← e]; exact hk)
    · rw [e] at hk; injection hk with hk; exact .inr (hk ▸ hb)
  have hfr : ∀ k, k < w.heap.size → k ≠ g → (V .clauses).ownBlock ≠ some k → (w1.setCell ⟨g, 1, none⟩ v1).heap[k]? = w.heap[k]? := fun k hk h1 h2 =>
    (Below.heap_setCell w1 _ _ k h1).trans (hg.fr.block k hk h2)
  have hown : ∀ r, r ≠ .clauses → (w1.setCell ⟨g, 1, none⟩ v1).ownsRow B (ty r) 1 (V r) (C s V r).length (C s V r) := fun r hr =>
    ownsRow_same (h.own r) fun k hk => hfr k (h.lt (.inr ⟨r, hk⟩)) (fun e => h.gne r (by rw [hk, e])) fun e => hr (h.inj r .clauses k hk e)
  have hvg : v.ownBlock ≠ some g := fun e => ho.apart g e (.inl rfl)
  have hCc : ∀ r, r ≠ .clauses → r ≠ .clause s.clauses.length → C { s with clauses := s.clauses ++ [c] } V2 r = C s V r := by
    intro r h1 h2
    have hr : V2 r = V r := (e4 r h2).trans (e2 r h1)
    cases r with
    | clause i =>
      have : i ≠ s.clauses.length := fun e => h2 (by rw [e])
      simp only [C, List.getD_eq_getElem?_getD]
      by_cases hi : i < s.clauses.length
      · rw [List.getElem?_append_left hi]
      · rw [List.getElem?_append_right (by omega), List.getElem?_eq_none (by simp; omega), List.getElem?_eq_none (by omega)]
    | clauses => exact absurd rfl h1
    | watch => simp only [C]; exact rowsOf_congr fun i _ => (e4 _ (by simp)).trans (e2 _ (by simp))
    | proof => simp only [C]; exact rowsOf_congr fun i _ => (e4 _ (by simp)).trans (e2 _ (by simp))
    | _ => rfl
  refine ⟨⟨fun r => ?_, fun r1 r2 k h1 h2 => ?_, ?_, h.gB, fun r => ?_, fun i hi => ?_, fun i hi => ?_, fun i hi => ?_⟩, fun k hk => ?_, ⟨hg.fr.os, hg.fr.tape, hg.fr.output, by rw [setCell_size]; exact hg.fr.size, fun k hk hn => hfr k hk (fun e => hn (.inl e)) fun e => hn (.inr ⟨_, e⟩)⟩⟩
  · by_cases c1 : r = .clauses
    · subst c1
      have hCC : C { s with clauses := s.clauses ++ [c] } V2 .clauses = C s V .clauses ++ [v] := by
        simp only [C, List.length_append, List.length_singleton]
        rw [rowsOf_succ, e3]
        congr 1
        exact rowsOf_congr fun i hi => (e4 _ (by simp; omega)).trans (e2 _ (by simp))
      rw [hCC, e4 _ (by simp), e1]
      refine ownsRow_same hg.own fun k hk => Below.heap_setCell w1 _ _ k fun e => ?_
      rcases hv1 k hk with h3 | h3
      · exact hgr (by rw [h3, e])
      · simp at e; omega
    · by_cases c2 : r = .clause s.clauses.length
      · subst c2
        have hCC : C { s with clauses := s.clauses ++ [c] } V2 (.clause s.clauses.length) = nums .i64 c := by simp [C]
        rw [hCC, e3]
        have := ho.own
        rw [show (nums .i64 c).length = c.length by simp [nums]]
        refine ownsRow_same this fun k hk => hfr k (ho.lt hk) (fun e => hvg (by rw [hk, e])) fun e => ho.apart k hk (.inr ⟨_, e⟩)
      · rw [hCc r c1 c2, e4 r c2, e2 r c1]
        exact hown r c1
  · by_cases c1 : r1 = .clause s.clauses.length <;> by_cases c2 : r2 = .clause s.clauses.length
    · rw [c1, c2]
    · subst c1
      rw [e3] at h1
      rw [e4 r2 c2] at h2
      by_cases c3 : r2 = .clauses
      · subst c3
        rw [e1] at h2
        rcases hv1 k h2 with h3 | h3
        · exact absurd (.inr ⟨_, h3⟩) (ho.apart k h1)
        · have := ho.lt h1; omega
      · rw [e2 r2 c3] at h2
        exact absurd (.inr ⟨_, h2⟩) (ho.apart k h1)
    · subst c2
      rw [e3] at h2
      rw [e4 r1 c1] at h1
      by_cases c3 : r1 = .clauses
      · subst c3
        rw [e1] at h1
        rcases hv1 k h1 with h3 | h3
        · exact absurd (.inr ⟨_, h3⟩) (ho.apart k h2)
        · have := ho.lt h2; omega
      · rw [e2 r1 c3] at h1
        exact absurd (.inr ⟨_, h1⟩) (ho.apart k h2)
    · rw [e4 r1 c1] at h1
      rw [e4 r2 c2] at h2
      by_cases c3 : r1 = .clauses <;> by_cases c4 : r2 = .clauses
      · rw [c3, c4]
      · subst c3
        rw [e1] at h1
        rw [e2 r2 c4] at h2
        rcases hv1 k h1 with h3 | h3
        · exact h.inj _ _ k h3 h2
        · have := h.lt (k := k) (.inr ⟨_, h2⟩); omega
      · subst c4
        rw [e1] at h2
        rw [e2 r1 c3] at h1
        rcases hv1 k h2 with h3 | h3
        · exact h.inj _ _ k h1 h3
        · have := h.lt (k := k) (.inr ⟨_, h1⟩); omega
      · rw [e2 r1 c3] at h1
        rw [e2 r2 c4] at h2
        exact h.inj _ _ k h1 h2
  · have : cellsS { s with clauses := s.clauses ++ [c] } V2 = (cellsS s V).setIfInBounds 1 v1 := by
      simp [cellsS, e4, e2, e1]
    rw [this]
    exact setCell_heap_self hobj 1 v1
  · by_cases c2 : r = .clause s.clauses.length
    · subst c2; rw [e3]; exact hvg
    · rw [e4 r c2]
      by_cases c1 : r = .clauses
      · subst c1
        rw [e1]
        intro e
        rcases hv1 g e with h3 | h3
        · exact hgr h3
        · omega
      · rw [e2 r c1]; exact h.gne r
  · rw [e4 _ (by simp at hi ⊢; omega), e2 _ (by simp)]; exact h.vc i (by simp at hi; omega)
  · rw [e4 _ (by simp), e2 _ (by simp)]; exact h.vw i hi
  · rw [e4 _ (by simp), e2 _ (by simp)]; exact h.vp i hi
  · rcases hk with rfl | ⟨r, hk⟩
    · exact .inl (.inl rfl)
    · by_cases c2 : r = .clause s.clauses.length
      · subst c2; rw [e3] at hk; exact .inr (.inl hk)
      · rw [e4 r c2] at hk
        by_cases c1 : r = .clauses
        · subst c1
          rw [e1] at hk
          rcases hv1 k hk with h3 | h3
          · exact .inl (.inr ⟨_, h3⟩)
          · exact .inr (.inr h3)
        · rw [e2 r c1] at hk; exact .inl (.inr ⟨_, hk⟩)
end
end Go.Proofs.Ytcahhbcehnbdkaa.Sv

/- Walk of (*search).add. -/
namespace Go.Proofs.Ytcahhbcehnbdkaa.Sv
open Go.RowKit Go.Proofs.YtcahhbcehnbdkaaW.PrintWords Go.Proofs.YtcahhbcehnbdkaaW.PrintLast Go.Proofs.Ytcahhbcehnbdkaa.Eng

def pushW (l : List (List Int)) (q : Nat) (x : Int) : List (List Int) := l.set q (l.getD q [] ++ [x])
def withC (s : S) (c : List Int) : S := { s with clauses := s.clauses ++ [c] }
def addS (s : S) : List Int → S × Bool
  | [] => (s, false)
  | [l] => if ofv s l = 0 then let s1 := setS (withC s [l]) l s.clauses.length; (s1, decide (ofv s1 l = 1)) else (s, decide (ofv s l = 1))
  | c0 :: c1 :: r => ({ withC s (c0 :: c1 :: r) with watch := pushW (pushW s.watch (codeL c0).toNat s.clauses.length) (codeL c1).toNat s.clauses.length }, true)

/-- What fits together in a search over atoms below n. -/
structure Fine (s : S) (n : Nat) : Prop where
  value : s.value.length = n
  level : s.level.length = n
  reason : s.reason.length = n
  watch : s.watch.length = 2 * n
  small : Small s.value
  nmax : n < 1099511627776
  trail : s.trail.length < 1099511627776
  clauses : s.clauses.length < 1099511627776
def Lit (n : Nat) (l : Int) : Prop := -(n : Int) < l ∧ l < n

/-- As Goes, with blocks X that may have been taken in. -/
structure GoesX (g : Nat) (V : Lay) (w : World) (X : Nat → Prop) (V' : Lay) (w' : World) : Prop where
  fr : Fr (fun k => foot g V k ∨ X k) w w'
  sub : ∀ k, foot g V' k → foot g V k ∨ X k ∨ w.heap.size ≤ k
theorem Goes.x {g : Nat} {V V' : Lay} {w w' : World} (h : Goes g V w V' w') (X : Nat → Prop) : GoesX g V w X V' w' := ⟨h.fr.mono fun _ h => .inl (.inl h), fun k hk => (h.sub k hk).imp id .inr⟩
theorem GoesX.drew {g : Nat} {V V' : Lay} {w w' : World} {X : Nat → Prop} (h : GoesX g V w X V' w') : GoesX g V w X V' w'.drew := ⟨h.fr.drew, h.sub⟩
theorem GoesX.trans {g : Nat} {V V1 V2 : Lay} {w w1 w2 : World} {X : Nat → Prop} (h : GoesX g V w X V1 w1) (k : Goes g V1 w1 V2 w2) : GoesX g V w X V2 w2 :=
  ⟨h.fr.trans k.fr fun i hi => by
    rcases h.sub i hi with h1 | h1 | h1
    · exact .inl (.inl h1)
    · exact .inl (.inr h1)
    · exact .inr h1, fun i hi => by
    rcases k.sub i hi with h1 | h1
    · exact h.sub i h1
    · exact .inr (.inr (Nat.le_trans h.fr.size h1))⟩

section
variable {w w1 : World} {B g : Nat} {s s' : S} {V : Lay}
theorem small_set {xs : List Int} (h : Small xs) (i : Nat) (l : Int) : Small (xs.set i (if l < 0 then -1 else 1)) := by
  intro x hx
  rcases List.mem_or_eq_of_mem_set hx with h1 | h1
  · exact h x h1
  · subst h1; split <;> omega
theorem lenW {n : Nat} (h : Fine s n) (q : Int) (hq : Lit n q) : 0 ≤ codeL q ∧ codeL q < (s.watch.length : Int) := by
  have := h.watch
  obtain ⟨h1, h2⟩ := hq
  unfold codeL
  split <;> omega

/-- A number is put behind a watch list. -/
theorem Srch.pushWatch (h : Srch w B g s V) (q : Nat) (x : Int) {v1 : Value} (hg : Grew w V (.wrow q) B 3 (C s V (.wrow q) ++ [.int .i64 x]) v1 w1) {bo no co : Nat} (hvo : V .watch = .slice (some ⟨bo, 0, none⟩) no co) (hq : q < s.watch.length) :
    Srch (w1.setCell ⟨bo, q, none⟩ v1) B g { s with watch := pushW s.watch q x } (upd V (.wrow q) v1) ∧ Goes g V w (upd V (.wrow q) v1) (w1.setCell ⟨bo, q, none⟩ v1) := by
  have hno : s.watch.length = no := by have := h.lenC .watch hvo; simpa [C, rowsOf_length] using this
  refine h.turnIn (s' := { s with watch := pushW s.watch q x }) (.wrow q) .watch q hg hvo (by omega) (by simp) ?_ (fun r' h1 h2 => ?_) ?_ ?_ rfl (by simp [pushW]) rfl (fun i => ⟨fun e => by simp at e, fun e => by injection e with e; omega, fun e => by simp at e⟩)
  · simp [cellsS, upd]
  · cases r' with
    | wrow i =>
      have : q ≠ i := fun e => h1 (by rw [e])
      simp [C, pushW, List.getD_eq_getElem?_getD, List.getElem?_set_ne this]
    | watch => exact absurd rfl h2
    | clauses => simp [C, upd]
    | proof => simp [C, upd]
    | _ => rfl
  · simp [C, pushW, List.getD_eq_getElem?_getD, hq, nums]
  · simp only [C, pushW, List.length_set]
    rw [rowsOf_set]
    refine rowsOf_congr fun i hi => ?_
    simp only [upd, Role.wrow.injEq]

theorem add_callsS {n : Nat} {v : Value} {c : List Int} (h : Srch w B g s V) (hf : Fine s n) (ho : Own w B g V v c) (hc : ∀ l ∈ c, Lit n l) (hw : ∀ l ∈ s.watch, l.length < 1099511627774) :
    Calls Try.prog 36 #[.pointer (some ⟨g, 0, none⟩), v] w fun e w' => e = .returned (.bool (addS s c).2) ∧ ∃ V', Srch w' B g (addS s c).1 V' ∧ GoesX g V w (fun k => v.ownBlock = some k) V' w' ∧ (2 ≤ c.length → V' (.clause s.clauses.length) = v) := by
  obtain ⟨A, cap, hv, hcap, hm⟩ := ho.slice
  subst hv
  refine calls_of_FC (N := 104) (vs := [.pointer (some ⟨g, 0, none⟩), .slice A c.length cap]) Try.func36 rfl Try.ntmps36 (Nat.le_of_ble_eq_true rfl) ?_
  refine FC.seq (FC.region ?_)
  refine sg_ rfl rfl rfl ?_
  refine FL.nilK ?_
  refine FC.cut (σ := Unit) (fun _ => [(0, .pointer (some ⟨g, 0, none⟩)), (1, .slice A c.length cap)]) (fun _ w2 => w2 = w ∧ 2 ≤ c.length) ?_ ?_
  · refine FC.seq (FC.region ?_)
    refine mv_ rfl rfl rfl ?_
    refine FL.pur rfl rfl (p_len rfl Try.underlying41) ?_
    refine FL.nilK ?_
    refine FC.block ?_
    refine FC.seq (FC.region ?_)
    refine FL.pur rfl rfl (p_eql rfl rfl rfl) ?_
    refine sg_ rfl rfl rfl ?_
    refine FL.nilK ?_
    refine FC.cond (decide ((c.length : Int) = 0)) rfl (fun hd => ?_) (fun hd => ?_)
    · have hl : (c.length : Int) = 0 := of_decide_eq_true hd
      obtain rfl : c = [] := List.eq_nil_of_length_eq_zero (by omega)
      refine FC.seq (FC.region ?_)
      refine sg_ rfl rfl rfl ?_
      refine FL.nilK ?_
      refine FC.ret ?_
      repeat with_reducible first | refine thn_ret ?_ | refine blk_ret ?_ | refine nog_ret ?_
      exact ret1 Try.results36 rfl ⟨rfl, V, h, (Goes.refl g V w).x _, fun h2 => by simp at h2⟩
    · have hl : ¬ (c.length : Int) = 0 := of_decide_eq_false hd
      refine FC.seq (FC.region ?_)
      refine FL.pur rfl rfl (p_eql rfl rfl rfl) ?_
      refine sg_ rfl rfl rfl ?_
      refine FL.nilK ?_
      refine FC.cond (decide ((c.length : Int) = 1)) rfl (fun hd1 => ?_) (fun hd1 => ?_)
      · have hl1 : (c.length : Int) = 1 := of_decide_eq_true hd1
        obtain ⟨l, rfl⟩ : ∃ l, c = [l] := List.length_eq_one_iff.1 (by omega)
        obtain ⟨b, cap', hb, _⟩ := ho.form (by simp)
        injection hb with hb1 hb2 hb3
        subst hb1; subst hb3
        change Own w B g V (.slice (some ⟨b, 0, none⟩) 1 cap) [l] at ho
        have hLl := hc l (by simp)
        obtain ⟨hL1, hL2⟩ := hLl
        have hcl : (C s V .clauses).length = s.clauses.length := by simp [C, rowsOf_length]
        have hc0 : w.cell? ⟨b, 0, none⟩ = some (.int .i64 l) := ho.cell rfl 0 (by omega) (by simp)
        have hbg : b ≠ g := fun e => ho.apart b rfl (.inl e)
        refine FC.cut (σ := Lay × S) (fun _ => [(0, .pointer (some ⟨g, 0, none⟩)), (1, .slice (some ⟨b, 0, none⟩) 1 cap)]) (fun x w2 => Srch w2 B g x.2 x.1 ∧ GoesX g V w (fun k => (Value.slice (some ⟨b, 0, none⟩) 1 cap).ownBlock = some k) x.1 w2 ∧ w2.cell? ⟨b, 0, none⟩ = some (.int .i64 l) ∧ x.2.value.length = n ∧ Small x.2.value ∧ addS s [l] = (x.2, decide (ofv x.2 l = 1))) ?_ ?_
        · refine FC.seq (FC.region ?_)
          refine mv_ rfl rfl rfl ?_
          refine mv_ rfl rfl rfl ?_
          refine FL.pur rfl rfl (idx41 rfl rfl (by omega) (by simp)) ?_
          refine FL.val _ _ rfl rfl (p_load rfl Try.underlying3 rfl hc0) ?_
          refine FL.call rfl rfl (p_call Try.func33 rfl rfl rfl) (of_calls h l (by rw [hf.value]; exact hL1) (by rw [hf.value]; exact hL2) hf.small) ?_
          rintro e_ w_ ⟨rfl, rfl⟩
          refine ⟨_, rfl, ?_⟩
          refine FL.pur rfl rfl (p_eql rfl rfl rfl) ?_
          refine FL.nilK ?_
          refine FC.cond (decide (ofv s l = 0)) rfl (fun hd2 => ?_) (fun hd2 => ?_)
          · have h0 : ofv s l = 0 := of_decide_eq_true hd2
            refine FC.seq (FC.region ?_)
            refine mv_ rfl rfl rfl ?_
            refine mv_ rfl rfl rfl ?_
            refine FL.pur rfl rfl (p_nilCheck rfl) ?_
            refine FL.pur rfl rfl (fld67_1 rfl) ?_
            refine FL.val _ _ rfl rfl (p_load rfl Try.underlying22 rfl h.f_clauses) ?_
            refine mv_ rfl rfl rfl ?_
            refine FL.val _ _ rfl rfl (bld22 rfl rfl) ?_
            refine FL.valG _ rfl rfl (h.app41 .clauses rfl (by rw [hcl]; exact hf.clauses) _ rfl rfl rfl) ?_
            intro v1 w6 hg
            refine FL.pur rfl rfl (p_nilCheck rfl) ?_
            refine FL.pur rfl rfl (fld67_1 rfl) ?_
            obtain ⟨h6, sub6, fr6⟩ := h.pushClause ho hg
            refine FL.sto _ rfl (st22 rfl rfl (own_one hg.own) (cell_of_row _ _ 1 _ _ _ (h.objG hg)) (blk_frozen (h.objG hg) 1)) ?_
            refine FL.nilK ?_
            obtain ⟨w7, hw7⟩ : ∃ w7, w6.setCell ⟨g, 1, none⟩ v1 = w7 := ⟨_, rfl⟩
            rw [hw7] at h6 fr6 ⊢
            have hcc : (C { s with clauses := s.clauses ++ [[l]] } (upd (upd V .clauses v1) (.clause s.clauses.length) (.slice (some ⟨b, 0, none⟩) 1 cap)) .clauses).length = s.clauses.length + 1 := by simp [C, rowsOf_length]
            obtain ⟨A1, cap1, hv1, _, _⟩ := h6.slice .clauses
            rw [hcc] at hv1
            have hc7 : w7.cell? ⟨b, 0, none⟩ = some (.int .i64 l) := h6.cell (.clause s.clauses.length) (b := b) (n := 1) (cap := cap) (by simp [upd]) 0 (by simp [C, nums])
            have hq : (((s.clauses.length + 1 : Nat) : Int)) - 1 = (s.clauses.length : Int) := by omega
            have hcl' := hf.clauses
            refine (FC.draw (fun w => w.cell? ⟨b, 0, none⟩ = some (.int .i64 l) ∧ w.cell? ⟨g, 1, none⟩ = some (.slice A1 (s.clauses.length + 1) cap1)) [10] (bA 11 0) (by kernel_rfl) rfl rfl ⟨hc7, cellEq h6.f_clauses hv1⟩ ?_)
            refine FA.pur (i := 0) (bA 11 1) rfl (by kernel_rfl) rfl rfl (p_move rfl) ?_
            refine FA.pur (i := 1) (bA 11 3) rfl (by kernel_rfl) rfl rfl (p_move rfl) ?_
            refine FA.pur (i := 2) (bA 11 7) rfl (by kernel_rfl) rfl rfl (idx41 rfl rfl (by omega) (by simp)) ?_
            refine FA.pur (i := 4) (bA 11 23) rfl (by kernel_rfl) rfl rfl (p_move rfl) ?_
            refine FA.pur (i := 5) (bA 11 55) rfl (by kernel_rfl) rfl rfl (p_nilCheck rfl) ?_
            refine FA.pur (i := 6) (bA 11 119) rfl (by kernel_rfl) rfl rfl (fld67_1 rfl) ?_
            refine FA.lod (i := 3) (bA 11 127) rfl (by kernel_rfl) rfl rfl ⟨hc7, cellEq h6.f_clauses hv1⟩ (fun _ hs => p_load rfl Try.underlying3 rfl hs.1) ?_
            refine FA.lod (i := 7) (bA 11 255) rfl (by kernel_rfl) rfl rfl ⟨hc7, cellEq h6.f_clauses hv1⟩ (fun _ hs => p_load rfl Try.underlying22 rfl hs.2) ?_
            refine FA.pur (i := 8) (bA 11 511) rfl (by kernel_rfl) rfl rfl (p_len rfl Try.underlying22) ?_
            refine FA.pur (i := 9) (bA 11 1023) rfl (by kernel_rfl) rfl rfl (p_sub rfl rfl ((wr (by omega) (by omega)).trans hq)) ?_
            refine FA.lastC (i := 10) (bA 11 2047) rfl (by kernel_rfl) (by decide) rfl rfl (p_call Try.func46 rfl rfl rfl) (set_calls h6.drew l _ (by show -(s.value.length : Int) < l; rw [hf.value]; exact hL1) (by show l < (s.value.length : Int); rw [hf.value]; exact hL2) (by show s.level.length = s.value.length; rw [hf.value, hf.level]) (by show s.reason.length = s.value.length; rw [hf.value, hf.reason]) hf.trail) ?_
            rintro e_ w8 ⟨rfl, v8, h8, G8⟩
            refine ⟨_, rfl, ?_⟩
            refine FA.done (by kernel_rfl) ?_
            refine ⟨(_, _), ⟨rfl, rfl, trivial⟩, h8, ?_, ?_, ?_, ?_, ?_⟩
            · exact (GoesX.mk (fr6.mono fun k hk => .inl (.inl hk)).drew sub6 : GoesX g V w _ _ w7.drew).trans G8
            · exact h8.cell (.clause s.clauses.length) (b := b) (n := 1) (cap := cap) (by simp [upd]) 0 (by simp [C, nums, setS])
            · simp [setS, hf.value]
            · exact small_set hf.small _ l
            · simp only [addS, h0, if_true]; rfl
          · have h0 : ¬ ofv s l = 0 := of_decide_eq_false hd2
            refine FC.skip ?_
            refine ⟨(V, s), ⟨rfl, rfl, trivial⟩, h, (Goes.refl g V w).x _, hc0, hf.value, hf.small, ?_⟩
            simp [addS, h0]
        · rintro ⟨V2, s2⟩ w2 ⟨h2, G2, hc2, hvl, hsm, hadd⟩
          simp only at h2 G2 hc2 hvl hsm hadd
          refine FC.seq (FC.region ?_)
          refine mv_ rfl rfl rfl ?_
          refine mv_ rfl rfl rfl ?_
          refine FL.pur rfl rfl (idx41 rfl rfl (by omega) (by simp)) ?_
          refine FL.val _ _ rfl rfl (p_load rfl Try.underlying3 rfl hc2) ?_
          refine FL.call rfl rfl (p_call Try.func33 rfl rfl rfl) (of_calls h2 l (by rw [hvl]; exact hL1) (by rw [hvl]; exact hL2) hsm) ?_
          rintro e_ w_ ⟨rfl, rfl⟩
          refine ⟨_, rfl, ?_⟩
          refine FL.pur rfl rfl (p_eql rfl rfl rfl) ?_
          refine sg_ rfl rfl rfl ?_
          refine FL.nilK ?_
          refine FC.ret ?_
          repeat with_reducible first | refine thn_ret ?_ | refine blk_ret ?_ | refine nog_ret ?_
          exact ret1 Try.results36 rfl ⟨by rw [hadd], V2, by rw [hadd]; exact h2, G2, fun h3 => by simp at h3⟩
      · have hl1 : ¬ (c.length : Int) = 1 := of_decide_eq_false hd1
        refine FC.skip ?_
        exact blk_normal ⟨(), ⟨rfl, rfl, trivial⟩, rfl, by omega⟩
  · rintro _ w2 ⟨rfl, hl⟩
    obtain ⟨c0, c1, r, hcs⟩ : ∃ c0 c1 r, c = c0 :: c1 :: r := by
      match c, hl with
      | c0 :: c1 :: r, _ => exact ⟨c0, c1, r, rfl⟩
    obtain ⟨b, cap', hb, _⟩ := ho.form (by omega)
    injection hb with hb1 hb2 hb3
    subst hb1; subst hb3
    clear hb2
    have hL0 := hc c0 (by rw [hcs]; simp)
    have hL1 := hc c1 (by rw [hcs]; simp)
    have hr0 : rd c 0 = c0 := by rw [hcs]; rfl
    have hr1 : rd c 1 = c1 := by rw [hcs]; rfl
    have hq0 := lenW hf c0 hL0
    have hq1 := lenW hf c1 hL1
    have hcl : (C s V .clauses).length = s.clauses.length := by simp [C, rowsOf_length]
    have hnm := hf.nmax
    obtain ⟨k01, k02⟩ := hL0
    obtain ⟨k11, k12⟩ := hL1
    obtain ⟨Ac, capc, hvc, _, _⟩ := h.slice .clauses
    rw [hcl] at hvc
    refine FC.seq (FC.region ?_)
    refine mv_ rfl rfl rfl ?_
    refine FL.pur rfl rfl (p_nilCheck rfl) ?_
    refine FL.pur rfl rfl (fld67_1 rfl) ?_
    refine FL.val _ _ rfl rfl (p_load rfl Try.underlying22 rfl (cellEq h.f_clauses hvc)) ?_
    refine FL.pur rfl rfl (p_len rfl Try.underlying22) ?_
    refine sg_ rfl rfl rfl ?_
    refine FL.nilK ?_
    refine FC.seq (FC.region ?_)
    refine mv_ rfl rfl rfl ?_
    refine mv_ rfl rfl rfl ?_
    refine FL.pur rfl rfl (p_nilCheck rfl) ?_
    refine FL.pur rfl rfl (fld67_1 rfl) ?_
    refine FL.val _ _ rfl rfl (p_load rfl Try.underlying22 rfl h.f_clauses) ?_
    refine mv_ rfl rfl rfl ?_
    refine FL.val _ _ rfl rfl (bld22 rfl rfl) ?_
    refine FL.valG _ rfl rfl (h.app41 .clauses rfl (by rw [hcl]; exact hf.clauses) _ rfl rfl rfl) ?_
    intro v1 w6 hg
    refine FL.pur rfl rfl (p_nilCheck rfl) ?_
    refine FL.pur rfl rfl (fld67_1 rfl) ?_
    obtain ⟨h6, sub6, fr6⟩ := h.pushClause ho hg
    refine FL.sto _ rfl (st22 rfl rfl (own_one hg.own) (cell_of_row _ _ 1 _ _ _ (h.objG hg)) (blk_frozen (h.objG hg) 1)) ?_
    refine FL.nilK ?_
    obtain ⟨w7, hw7⟩ : ∃ w7, w6.setCell ⟨g, 1, none⟩ v1 = w7 := ⟨_, rfl⟩
    rw [hw7] at h6 fr6 ⊢
    clear hw7 hg
    have G6 : GoesX g V w2 (fun k => (Value.slice (some ⟨b, 0, none⟩) c.length cap).ownBlock = some k) _ w7 := ⟨fr6.mono fun k hk => .inl (.inl hk), sub6⟩
    clear fr6 sub6
    obtain ⟨V6, hV6⟩ : ∃ V6, upd (upd V .clauses v1) (.clause s.clauses.length) (.slice (some ⟨b, 0, none⟩) c.length cap) = V6 := ⟨_, rfl⟩
    rw [hV6] at h6 G6
    have hvn : V6 (.clause s.clauses.length) = .slice (some ⟨b, 0, none⟩) c.length cap := by rw [← hV6, upd_self]
    obtain ⟨s6, hs6⟩ : ∃ s6, { s with clauses := s.clauses ++ [c] } = s6 := ⟨_, rfl⟩
    rw [hs6] at h6
    have hCn : C s6 V6 (.clause s.clauses.length) = nums .i64 c := by rw [← hs6]; simp [C]
    have hwl6 : s6.watch = s.watch := by rw [← hs6]
    have hlw : (C s6 V6 .watch).length = s.watch.length := by simp [C, rowsOf_length, hwl6]
    obtain ⟨bo, co, hvo, _⟩ := h6.form .watch (by rw [hlw]; omega)
    rw [hlw] at hvo
    have hcw0 : ∀ W, Srch W B g s6 V6 → W.cell? ⟨bo, (codeL c0).toNat, none⟩ = some (V6 (.wrow (codeL c0).toNat)) := fun W hW => hW.cell .watch hvo _ (by simp only [C]; exact rowsOf_get _ _ _ (by rw [hwl6]; omega))
    have hcc0 : ∀ W, Srch W B g s6 V6 → W.cell? ⟨b, 0, none⟩ = some (.int .i64 (rd c 0)) := fun W hW => hW.cell _ hvn 0 (by rw [hCn]; exact nums_at .i64 c 0 (by omega) (by omega))
    have hlr : (C s6 V6 (.wrow (codeL c0).toNat)).length = (s.watch.getD (codeL c0).toNat []).length := by simp [C, nums, hwl6]
    have hlr' : (s.watch.getD (codeL c0).toNat []).length < 1099511627774 := by
      apply hw
      have : (codeL c0).toNat < s.watch.length := by omega
      simp [List.getD_eq_getElem?_getD, List.getElem?_eq_getElem this]
    have h6d := h6.drew
    rw [hr0] at hcc0
    have hS6 := And.intro (cellEq h6d.f_watch hvo) (And.intro (hcc0 _ h6d) (hcw0 _ h6d))
    refine FC.seq (FC.draw (fun w => w.cell? ⟨g, 2, none⟩ = some (.slice (some ⟨bo, 0, none⟩) s.watch.length co) ∧ w.cell? ⟨b, 0, none⟩ = some (.int .i64 c0) ∧ w.cell? ⟨bo, (codeL c0).toNat, none⟩ = some (V6 (.wrow (codeL c0).toNat))) [22] (bA 23 0) (by kernel_rfl) rfl rfl hS6 ?_)
    refine FA.pur (i := 0) (bA 23 1) rfl (by kernel_rfl) rfl rfl (p_move rfl) ?_
    refine FA.pur (i := 1) (bA 23 3) rfl (by kernel_rfl) rfl rfl (p_nilCheck rfl) ?_
    refine FA.pur (i := 2) (bA 23 7) rfl (by kernel_rfl) rfl rfl (fld67_2 rfl) ?_
    refine FA.pur (i := 4) (bA 23 23) rfl (by kernel_rfl) rfl rfl (p_move rfl) ?_
    refine FA.pur (i := 5) (bA 23 55) rfl (by kernel_rfl) rfl rfl (idx41 rfl rfl (by omega) (by omega)) ?_
    refine FA.pur (i := 8) (bA 23 311) rfl (by kernel_rfl) rfl rfl (p_move rfl) ?_
    refine FA.pur (i := 9) (bA 23 823) rfl (by kernel_rfl) rfl rfl (p_nilCheck rfl) ?_
    refine FA.pur (i := 10) (bA 23 1847) rfl (by kernel_rfl) rfl rfl (fld67_2 rfl) ?_
    refine FA.pur (i := 12) (bA 23 5943) rfl (by kernel_rfl) rfl rfl (p_move rfl) ?_
    refine FA.pur (i := 13) (bA 23 14135) rfl (by kernel_rfl) rfl rfl (idx41 rfl rfl (by omega) (by omega)) ?_
    refine FA.pur (i := 18) (bA 23 276279) rfl (by kernel_rfl) rfl rfl (p_move rfl) ?_
    refine FA.lod (i := 3) (bA 23 276287) rfl (by kernel_rfl) rfl rfl hS6 (fun _ hs => p_load rfl Try.underlying22 rfl hs.1) ?_
    refine FA.lod (i := 6) (bA 23 276351) rfl (by kernel_rfl) rfl rfl hS6 (fun _ hs => p_load rfl Try.underlying3 rfl hs.2.1) ?_
    refine FA.lod (i := 11) (bA 23 278399) rfl (by kernel_rfl) rfl rfl hS6 (fun _ hs => p_load rfl Try.underlying22 rfl hs.1) ?_
    refine FA.lod (i := 14) (bA 23 294783) rfl (by kernel_rfl) rfl rfl hS6 (fun _ hs => p_load rfl Try.underlying3 rfl hs.2.1) ?_
    refine FA.tell (i := 7) (bA 23 294911) rfl (by kernel_rfl) rfl rfl hS6 (fun _ _ => p_call Try.func47 rfl rfl rfl) (fun _ hs => code_calls c0 _ (by omega) (by omega)) ?_
    refine FA.tell (i := 15) (bA 23 327679) rfl (by kernel_rfl) rfl rfl hS6 (fun _ _ => p_call Try.func47 rfl rfl rfl) (fun _ hs => code_calls c0 _ (by omega) (by omega)) ?_
    refine FA.pur (i := 16) (bA 23 393215) rfl (by kernel_rfl) rfl rfl (idx22 rfl rfl hq0.1 hq0.2) ?_
    refine FA.lod (i := 17) (bA 23 524287) rfl (by kernel_rfl) rfl rfl hS6 (fun _ hs => p_load rfl Try.underlying41 rfl hs.2.2) ?_
    refine FA.one (i := 19) _ _ (bA 23 1048575) rfl (by kernel_rfl) (by decide) rfl rfl (bld41 rfl rfl) ⟨cell_alloc hS6.1 _, cell_alloc hS6.2.1 _, cell_alloc hS6.2.2 _⟩ ?_
    refine FA.oneG (i := 20) _ (bA 23 2097151) rfl (by kernel_rfl) (by decide) rfl rfl (h6d.app3 (.wrow (codeL c0).toNat) rfl (by rw [hlr]; omega) s.clauses.length rfl rfl) (fun v8 w8 hg => ?_) (fun v8 w8 hg => ?_)
    · exact ⟨hg.fr.cell hS6.1 (h6d.gne _), hg.fr.cell hS6.2.1 (fun e => by have := h6d.inj _ _ _ e (by rw [hvn]; rfl); cases this), hg.fr.cell hS6.2.2 (fun e => by have := h6d.inj _ _ _ e (by rw [hvo]; rfl); cases this)⟩
    refine FA.pur (i := 21) (bA 23 4194303) rfl (by kernel_rfl) rfl rfl (idx22 rfl rfl hq0.1 hq0.2) ?_
    obtain ⟨h8, G8⟩ := h6d.pushWatch (codeL c0).toNat s.clauses.length hg hvo (by rw [hwl6]; omega)
    refine FA.lastS (i := 22) _ (bA 23 8388607) rfl (by kernel_rfl) (by decide) rfl (st41 rfl rfl (own_one hg.own) (hg.fr.cell hS6.2.2 (fun e => by have := h6d.inj _ _ _ e (by rw [hvo]; rfl); cases this)) (hg.fr.unfr hS6.2.2 (h6d.unfr .watch hvo _) (fun e => by have := h6d.inj _ _ _ e (by rw [hvo]; rfl); cases this))) ?_
    refine FA.doneK (by kernel_rfl) ?_
    obtain ⟨w9, hw9⟩ : ∃ w9, w8.setCell ⟨bo, (codeL c0).toNat, none⟩ v8 = w9 := ⟨_, rfl⟩
    rw [hw9] at h8 G8 ⊢
    have G9 := G6.drew.trans G8
    clear hw9 hg G6 G8 hS6 h6d
    obtain ⟨V8, hV8⟩ : ∃ V8, upd V6 (.wrow (codeL c0).toNat) v8 = V8 := ⟨_, rfl⟩
    rw [hV8] at h8 G9
    obtain ⟨s8, hs8⟩ : ∃ s8, { s6 with watch := pushW s6.watch (codeL c0).toNat s.clauses.length } = s8 := ⟨_, rfl⟩
    have h8' : Srch w9 B g s8 V8 := by rw [← hs8]; exact h8
    clear h8
    have hvn8 : V8 (.clause s.clauses.length) = .slice (some ⟨b, 0, none⟩) c.length cap := by rw [← hV8, upd_ne _ _ (by simp)]; exact hvn
    have hvo8 : V8 .watch = .slice (some ⟨bo, 0, none⟩) s.watch.length co := by rw [← hV8, upd_ne _ _ (by simp)]; exact hvo
    have hCn8 : C s8 V8 (.clause s.clauses.length) = nums .i64 c := by rw [← hs8, ← hs6]; simp [C]
    have hw8 : s8.watch = pushW s.watch (codeL c0).toNat s.clauses.length := by rw [← hs8, ← hs6]
    have hwl8 : s8.watch.length = s.watch.length := by rw [hw8]; simp [pushW]
    have hlr8 : (C s8 V8 (.wrow (codeL c1).toNat)).length < 1099511627776 := by
      have h0 : ∀ q, (s8.watch.getD q []).length ≤ (s.watch.getD q []).length + 1 := by
        intro q
        rw [hw8]
        simp only [pushW, List.getD_eq_getElem?_getD, List.getElem?_set]
        split
        · split
          · rename_i h1 h2; subst h1; simp
          · simp
        · omega
      have h1 := h0 (codeL c1).toNat
      have h2 : (s.watch.getD (codeL c1).toNat []).length < 1099511627774 := by
        apply hw
        have : (codeL c1).toNat < s.watch.length := by omega
        simp [List.getD_eq_getElem?_getD, List.getElem?_eq_getElem this]
      simp only [C, nums, List.length_map]
      omega
    have h9 := h8'.drew
    have hS9 := And.intro (cellEq h9.f_watch hvo8) (And.intro (h9.cell _ hvn8 1 (by rw [hCn8]; exact nums_at .i64 c 1 (by omega) (by omega))) (h9.cell .watch hvo8 (codeL c1).toNat (v := V8 (.wrow (codeL c1).toNat)) (by simp only [C]; exact rowsOf_get _ _ _ (by omega))))
    rw [hr1] at hS9
    refine FC.seq (FC.draw (fun w => w.cell? ⟨g, 2, none⟩ = some (.slice (some ⟨bo, 0, none⟩) s.watch.length co) ∧ w.cell? ⟨b, 1, none⟩ = some (.int .i64 c1) ∧ w.cell? ⟨bo, (codeL c1).toNat, none⟩ = some (V8 (.wrow (codeL c1).toNat))) [22] (bA 23 0) (by kernel_rfl) rfl rfl hS9 ?_)
    refine FA.pur (i := 0) (bA 23 1) rfl (by kernel_rfl) rfl rfl (p_move rfl) ?_
    refine FA.pur (i := 1) (bA 23 3) rfl (by kernel_rfl) rfl rfl (p_nilCheck rfl) ?_
    refine FA.pur (i := 2) (bA 23 7) rfl (by kernel_rfl) rfl rfl (fld67_2 rfl) ?_
    refine FA.pur (i := 4) (bA 23 23) rfl (by kernel_rfl) rfl rfl (p_move rfl) ?_
    refine FA.pur (i := 5) (bA 23 55) rfl (by kernel_rfl) rfl rfl (idx41 rfl rfl (by omega) (by omega)) ?_
    refine FA.pur (i := 8) (bA 23 311) rfl (by kernel_rfl) rfl rfl (p_move rfl) ?_
    refine FA.pur (i := 9) (bA 23 823) rfl (by kernel_rfl) rfl rfl (p_nilCheck rfl) ?_
    refine FA.pur (i := 10) (bA 23 1847) rfl (by kernel_rfl) rfl rfl (fld67_2 rfl) ?_
    refine FA.pur (i := 12) (bA 23 5943) rfl (by kernel_rfl) rfl rfl (p_move rfl) ?_
    refine FA.pur (i := 13) (bA 23 14135) rfl (by kernel_rfl) rfl rfl (idx41 rfl rfl (by omega) (by omega)) ?_
    refine FA.pur (i := 18) (bA 23 276279) rfl (by kernel_rfl) rfl rfl (p_move rfl) ?_
    refine FA.lod (i := 3) (bA 23 276287) rfl (by kernel_rfl) rfl rfl hS9 (fun _ hs => p_load rfl Try.underlying22 rfl hs.1) ?_
    refine FA.lod (i := 6) (bA 23 276351) rfl (by kernel_rfl) rfl rfl hS9 (fun _ hs => p_load rfl Try.underlying3 rfl hs.2.1) ?_
    refine FA.lod (i := 11) (bA 23 278399) rfl (by kernel_rfl) rfl rfl hS9 (fun _ hs => p_load rfl Try.underlying22 rfl hs.1) ?_
    refine FA.lod (i := 14) (bA 23 294783) rfl (by kernel_rfl) rfl rfl hS9 (fun _ hs => p_load rfl Try.underlying3 rfl hs.2.1) ?_
    refine FA.tell (i := 7) (bA 23 294911) rfl (by kernel_rfl) rfl rfl hS9 (fun _ _ => p_call Try.func47 rfl rfl rfl) (fun _ hs => code_calls c1 _ (by omega) (by omega)) ?_
    refine FA.tell (i := 15) (bA 23 327679) rfl (by kernel_rfl) rfl rfl hS9 (fun _ _ => p_call Try.func47 rfl rfl rfl) (fun _ hs => code_calls c1 _ (by omega) (by omega)) ?_
    refine FA.pur (i := 16) (bA 23 393215) rfl (by kernel_rfl) rfl rfl (idx22 rfl rfl hq1.1 hq1.2) ?_
    refine FA.lod (i := 17) (bA 23 524287) rfl (by kernel_rfl) rfl rfl hS9 (fun _ hs => p_load rfl Try.underlying41 rfl hs.2.2) ?_
    refine FA.one (i := 19) _ _ (bA 23 1048575) rfl (by kernel_rfl) (by decide) rfl rfl (bld41 rfl rfl) ⟨cell_alloc hS9.1 _, cell_alloc hS9.2.1 _, cell_alloc hS9.2.2 _⟩ ?_
    refine FA.oneG (i := 20) _ (bA 23 2097151) rfl (by kernel_rfl) (by decide) rfl rfl (h9.app3 (.wrow (codeL c1).toNat) rfl hlr8 s.clauses.length rfl rfl) (fun v8 w8 hg => ?_) (fun v9 w10 hg => ?_)
    · exact ⟨hg.fr.cell hS9.1 (h9.gne _), hg.fr.cell hS9.2.1 (fun e => by have := h9.inj _ _ _ e (by rw [hvn8]; rfl); cases this), hg.fr.cell hS9.2.2 (fun e => by have := h9.inj _ _ _ e (by rw [hvo8]; rfl); cases this)⟩
    refine FA.pur (i := 21) (bA 23 4194303) rfl (by kernel_rfl) rfl rfl (idx22 rfl rfl hq1.1 hq1.2) ?_
    obtain ⟨h11, G11⟩ := h9.pushWatch (codeL c1).toNat s.clauses.length hg hvo8 (by omega)
    refine FA.lastS (i := 22) _ (bA 23 8388607) rfl (by kernel_rfl) (by decide) rfl (st41 rfl rfl (own_one hg.own) (hg.fr.cell hS9.2.2 (fun e => by have := h9.inj _ _ _ e (by rw [hvo8]; rfl); cases this)) (hg.fr.unfr hS9.2.2 (h9.unfr .watch hvo8 _) (fun e => by have := h9.inj _ _ _ e (by rw [hvo8]; rfl); cases this))) ?_
    refine FA.doneK (by kernel_rfl) ?_
    refine FC.seq (FC.region ?_)
    refine sg_ rfl rfl rfl ?_
    refine FL.nilK ?_
    refine FC.ret ?_
    repeat with_reducible first | refine thn_ret ?_ | refine blk_ret ?_ | refine nog_ret ?_
    have hfin : addS s c = ({ s8 with watch := pushW s8.watch (codeL c1).toNat s.clauses.length }, true) := by
      rw [hcs, ← hs8, ← hs6]
      simp only [addS, withC, hcs]
    exact ret1 Try.results36 rfl ⟨by rw [hfin], _, by rw [hfin]; exact h11, G9.drew.trans G11, fun _ => by rw [upd_ne _ _ (by simp)]; exact hvn8⟩
theorem add_calls {n : Nat} {v : Value} {c : List Int} (h : Srch w B g s V) (hf : Fine s n) (ho : Own w B g V v c) (hc : ∀ l ∈ c, Lit n l) (hw : ∀ l ∈ s.watch, l.length < 1099511627774) :
    Calls Try.prog 36 #[.pointer (some ⟨g, 0, none⟩), v] w fun e w' => e = .returned (.bool (addS s c).2) ∧ ∃ V', Srch w' B g (addS s c).1 V' ∧ GoesX g V w (fun k => v.ownBlock = some k) V' w' :=
  (add_callsS h hf ho hc hw).mono fun _ _ ⟨h1, V', h2, h3, _⟩ => ⟨h1, V', h2, h3⟩
end
end Go.Proofs.Ytcahhbcehnbdkaa.Sv

/- Walk of (*search).undo. -/
namespace Go.Proofs.Ytcahhbcehnbdkaa.Sv
open Go.RowKit Go.Proofs.YtcahhbcehnbdkaaW.PrintWords Go.Proofs.YtcahhbcehnbdkaaW.PrintLast Go.Proofs.Ytcahhbcehnbdkaa.Eng

def popS (s : S) : S := { s with value := s.value.set (av (rd s.trail ((s.trail.length : Int) - 1))).toNat 0, trail := s.trail.take (s.trail.length - 1) }
def undoTo (s : S) : Nat → S
  | 0 => s
  | k + 1 => undoTo (popS s) k
def undoS (s : S) (lev : Int) : S :=
  let m := (rd s.marks lev).toNat
  let s1 := undoTo s (s.trail.length - m)
  { s1 with marks := s.marks.take lev.toNat, head := s1.trail.length }

section
variable {w w1 : World} {B g : Nat} {s s' : S} {V : Lay}
theorem Srch.setTrail (h : Srch w B g s V) {A : Option Addr} {n c k : Nat} (hv : V .trail = .slice A n c) (hk : k ≤ n) :
    Srch (w.setCell ⟨g, 7, none⟩ (.slice A k c)) B g { s with trail := s.trail.take k } (upd V .trail (.slice A k c)) ∧ Goes g V w (upd V .trail (.slice A k c)) (w.setCell ⟨g, 7, none⟩ (.slice A k c)) := by
  refine h.grew (s' := { s with trail := s.trail.take k }) .trail 7 (h.grewTake .trail hv hk) ?_ (fun r' hr => ?_) ?_ rfl rfl rfl (fun i => ⟨by simp, by simp, by simp⟩)
  · simp [cellsS, upd]
  · cases r' <;> simp_all [C, upd]
  · simp [C, nums, List.map_take]
theorem Srch.setMarks (h : Srch w B g s V) {A : Option Addr} {n c k : Nat} (hv : V .marks = .slice A n c) (hk : k ≤ n) :
    Srch (w.setCell ⟨g, 8, none⟩ (.slice A k c)) B g { s with marks := s.marks.take k } (upd V .marks (.slice A k c)) ∧ Goes g V w (upd V .marks (.slice A k c)) (w.setCell ⟨g, 8, none⟩ (.slice A k c)) := by
  refine h.grew (s' := { s with marks := s.marks.take k }) .marks 8 (h.grewTake .marks hv hk) ?_ (fun r' hr => ?_) ?_ rfl rfl rfl (fun i => ⟨by simp, by simp, by simp⟩)
  · simp [cellsS, upd]
  · cases r' <;> simp_all [C, upd]
  · simp [C, nums, List.map_take]
theorem Srch.setHead (h : Srch w B g s V) (x : Int) :
    Srch (w.setCell ⟨g, 9, none⟩ (.int .i64 x)) B g { s with head := x } V ∧ Goes g V w V (w.setCell ⟨g, 9, none⟩ (.int .i64 x)) := by
  refine h.storeField (s' := { s with head := x }) 9 _ ?_ (fun r' => ?_) rfl rfl rfl
  · simp [cellsS]
  · cases r' <;> rfl
theorem Srch.lenOf (h : Srch w B g s V) (r : Role) (n : Nat) (hn : (C s V r).length = n) : ∃ A cap, V r = .slice A n cap ∧ n ≤ cap ∧ cap ≤ 9223372036854775807 := by
  obtain ⟨A, cap, h1, h2, h3⟩ := h.slice r
  rw [hn] at h1 h2
  exact ⟨A, cap, h1, h2, by simp only [maxLen] at h3; omega⟩
theorem Srch.formOf (h : Srch w B g s V) (r : Role) (n : Nat) (hn : (C s V r).length = n) (h0 : 0 < n) : ∃ b cap, V r = .slice (some ⟨b, 0, none⟩) n cap ∧ n ≤ cap ∧ cap ≤ 9223372036854775807 := by
  obtain ⟨b, cap, h1, _, _, _, h2, h3, _⟩ := h.form r (by omega)
  rw [hn] at h1 h2
  exact ⟨b, cap, h1, h2, h3⟩

theorem undo_calls (h : Srch w B g s V) (lev : Int) {n : Nat} (hval : s.value.length = n) (hl0 : 0 ≤ lev) (hl1 : lev < s.marks.length) (hm0 : 0 ≤ rd s.marks lev) (htr : ∀ l ∈ s.trail, Lit n l) (hmt : rd s.marks lev ≤ s.trail.length) :
    Calls Try.prog 48 #[.pointer (some ⟨g, 0, none⟩), .int .i64 lev] w fun e w' => e = .returned (.tuple #[]) ∧ ∃ V', Srch w' B g (undoS s lev) V' ∧ Goes g V w V' w' := by
  refine calls_of_FC (N := 70) (vs := [.pointer (some ⟨g, 0, none⟩), .int .i64 lev]) Try.func48 rfl Try.ntmps48 (Nat.le_of_ble_eq_true rfl) ?_
  refine FC.cut (σ := S × Lay) (fun _ => [(0, .pointer (some ⟨g, 0, none⟩)), (1, .int .i64 lev)]) (fun x w2 => Srch w2 B g x.1 x.2 ∧ Goes g V w x.2 w2 ∧ x.1 = undoTo s (s.trail.length - (rd s.marks lev).toNat) ∧ x.1.marks = s.marks) ?_ ?_
  · refine FC.block ?_
    refine FC.loop (σ := S × Lay) (fun _ => [(0, .pointer (some ⟨g, 0, none⟩)), (1, .int .i64 lev)]) (fun x w2 => Srch w2 B g x.1 x.2 ∧ Goes g V w x.2 w2 ∧ x.1.marks = s.marks ∧ x.1.value.length = n ∧ (∀ l ∈ x.1.trail, Lit n l) ∧ (rd s.marks lev).toNat ≤ x.1.trail.length ∧ undoTo x.1 (x.1.trail.length - (rd s.marks lev).toNat) = undoTo s (s.trail.length - (rd s.marks lev).toNat))
      (fun x => x.1.trail.length) (s, V) ⟨h, Goes.refl g V w, rfl, hval, htr, show (rd s.marks lev).toNat ≤ s.trail.length by omega, rfl⟩ ⟨rfl, rfl, trivial⟩ ?_
    rintro ⟨s1, V1⟩ w1 ⟨h1, G1, hmk, hv1, ht1, hle, hund⟩
    simp only at h1 G1 hmk hv1 ht1 hle hund
    have h1d := h1.drew
    obtain ⟨At, ct, hvt, hct, hct'⟩ := h1d.lenOf .trail s1.trail.length (by simp [C, nums])
    obtain ⟨bm, cm, hvm, hcm, hcm'⟩ := h1d.formOf .marks s1.marks.length (by simp [C, nums]) (by rw [hmk]; omega)
    have hcell := h1d.cell .marks hvm lev.toNat (v := .int .i64 (rd s1.marks lev)) (by simp only [C]; exact nums_at .i64 _ _ hl0 (by rw [hmk]; exact hl1))
    rw [hmk] at hcell
    have hS := And.intro (cellEq h1d.f_trail hvt) (And.intro (cellEq h1d.f_marks hvm) hcell)
    refine FC.seq ?_
    refine FC.seq (FC.draw (fun w => w.cell? ⟨g, 7, none⟩ = some (.slice At s1.trail.length ct) ∧ w.cell? ⟨g, 8, none⟩ = some (.slice (some ⟨bm, 0, none⟩) s1.marks.length cm) ∧ w.cell? ⟨bm, lev.toNat, none⟩ = some (.int .i64 (rd s.marks lev))) [] (bA 13 0) (by kernel_rfl) rfl rfl hS ?_)
    refine FA.pur (i := 0) (bA 13 1) rfl (by kernel_rfl) rfl rfl (p_move rfl) ?_
    refine FA.pur (i := 1) (bA 13 3) rfl (by kernel_rfl) rfl rfl (p_nilCheck rfl) ?_
    refine FA.pur (i := 2) (bA 13 7) rfl (by kernel_rfl) rfl rfl (fld67_7 rfl) ?_
    refine FA.pur (i := 5) (bA 13 39) rfl (by kernel_rfl) rfl rfl (p_move rfl) ?_
    refine FA.pur (i := 6) (bA 13 103) rfl (by kernel_rfl) rfl rfl (p_nilCheck rfl) ?_
    refine FA.pur (i := 7) (bA 13 231) rfl (by kernel_rfl) rfl rfl (fld67_8 rfl) ?_
    refine FA.pur (i := 9) (bA 13 743) rfl (by kernel_rfl) rfl rfl (p_move rfl) ?_
    refine FA.lod (i := 3) (bA 13 751) rfl (by kernel_rfl) rfl rfl hS (fun _ hs => p_load rfl Try.underlying41 rfl hs.1) ?_
    refine FA.pur (i := 4) (bA 13 767) rfl (by kernel_rfl) rfl rfl (p_len rfl Try.underlying41) ?_
    refine FA.lod (i := 8) (bA 13 1023) rfl (by kernel_rfl) rfl rfl hS (fun _ hs => p_load rfl Try.underlying41 rfl hs.2.1) ?_
    refine FA.pur (i := 10) (bA 13 2047) rfl (by kernel_rfl) rfl rfl (idx41 rfl rfl hl0 (by rw [hmk]; exact hl1)) ?_
    refine FA.lod (i := 11) (bA 13 4095) rfl (by kernel_rfl) rfl rfl hS (fun _ hs => p_load rfl Try.underlying3 rfl hs.2.2) ?_
    refine FA.pur (i := 12) (bA 13 8191) rfl (by kernel_rfl) rfl rfl (p_gtr rfl rfl rfl) ?_
    refine FA.doneK (by kernel_rfl) ?_
    refine FC.cond (decide (rd s.marks lev < (s1.trail.length : Int))) rfl (fun hc => FC.skip (thn_normal ?_)) (fun hc => FC.exit ?_)
    · have hlt : rd s.marks lev < (s1.trail.length : Int) := of_decide_eq_true hc
      have hpos : 0 < s1.trail.length := by omega
      refine FC.block ?_
      have h2 := h1d.drew
      obtain ⟨l, hl⟩ : ∃ l, rd s1.trail ((s1.trail.length : Int) - 1) = l := ⟨_, rfl⟩
      have hLl : Lit n l := ht1 l (by rw [← hl]; exact rd_mem _ _ (by omega) (by omega))
      obtain ⟨bt, ct', hvt', hct1, hct1'⟩ := h1d.formOf .trail s1.trail.length (by simp [C, nums]) hpos
      have hcl := h2.cell .trail hvt' ((s1.trail.length : Int) - 1).toNat (v := .int .i64 l) (by simp only [C]; rw [← hl]; exact nums_at .i64 _ _ (by omega) (by omega))
      have hS2 := And.intro (cellEq h2.f_trail hvt') hcl
      refine FC.seq (FC.draw (fun w => w.cell? ⟨g, 7, none⟩ = some (.slice (some ⟨bt, 0, none⟩) s1.trail.length ct') ∧ w.cell? ⟨bt, ((s1.trail.length : Int) - 1).toNat, none⟩ = some (.int .i64 l)) [] (bA 13 0) (by kernel_rfl) rfl rfl hS2 ?_)
      refine FA.pur (i := 0) (bA 13 1) rfl (by kernel_rfl) rfl rfl (p_move rfl) ?_
      refine FA.pur (i := 1) (bA 13 3) rfl (by kernel_rfl) rfl rfl (p_nilCheck rfl) ?_
      refine FA.pur (i := 2) (bA 13 7) rfl (by kernel_rfl) rfl rfl (fld67_7 rfl) ?_
      refine FA.pur (i := 4) (bA 13 23) rfl (by kernel_rfl) rfl rfl (p_move rfl) ?_
      refine FA.pur (i := 5) (bA 13 55) rfl (by kernel_rfl) rfl rfl (p_nilCheck rfl) ?_
      refine FA.pur (i := 6) (bA 13 119) rfl (by kernel_rfl) rfl rfl (fld67_7 rfl) ?_
      refine FA.lod (i := 3) (bA 13 127) rfl (by kernel_rfl) rfl rfl hS2 (fun _ hs => p_load rfl Try.underlying41 rfl hs.1) ?_
      refine FA.lod (i := 7) (bA 13 255) rfl (by kernel_rfl) rfl rfl hS2 (fun _ hs => p_load rfl Try.underlying41 rfl hs.1) ?_
      refine FA.pur (i := 8) (bA 13 511) rfl (by kernel_rfl) rfl rfl (p_len rfl Try.underlying41) ?_
      refine FA.pur (i := 9) (bA 13 1023) rfl (by kernel_rfl) rfl rfl (p_sub rfl rfl (wr (by omega) (by omega))) ?_
      refine FA.pur (i := 10) (bA 13 2047) rfl (by kernel_rfl) rfl rfl (idx41 rfl rfl (by omega) (by omega)) ?_
      refine FA.lod (i := 11) (bA 13 4095) rfl (by kernel_rfl) rfl rfl hS2 (fun _ hs => p_load rfl Try.underlying3 rfl hs.2) ?_
      refine FA.pur (i := 12) (bA 13 8191) rfl (by kernel_rfl) rfl rfl (p_assign rfl) ?_
      refine FA.doneK (by kernel_rfl) ?_
      obtain ⟨bv, cv, hvv, hcv, hcv'⟩ := h2.formOf .value n (by simp [C, nums, hv1]) (by obtain ⟨a1, a2⟩ := hLl; omega)
      have ha0 : 0 ≤ av l := by unfold av; omega
      have ha1 : av l < n := by obtain ⟨a1, a2⟩ := hLl; unfold av; omega
      obtain ⟨yv, hyv⟩ := nums_some .i8 s1.value (av l).toNat (by omega)
      have hb1 : -9223372036854775808 ≤ -l := by obtain ⟨a1, a2⟩ := hLl; omega
      have hb2 : -l ≤ 9223372036854775807 := by obtain ⟨a1, a2⟩ := hLl; omega
      refine FC.seq (FC.region ?_)
      refine mv_ rfl rfl rfl ?_
      refine FL.pur rfl rfl (p_nilCheck rfl) ?_
      refine FL.pur rfl rfl (fld67_3 rfl) ?_
      refine FL.val _ _ rfl rfl (p_load rfl Try.underlying65 rfl (cellEq h2.f_value hvv)) ?_
      refine mv_ rfl rfl rfl ?_
      refine mv_ rfl rfl rfl ?_
      refine FL.pur rfl rfl (p_neg rfl (wr hb1 hb2)) ?_
      refine FL.pur rfl rfl (p_max rfl rfl (rfl : max l (-l) = av l)) ?_
      refine FL.pur rfl rfl (idx65 rfl rfl ha0 ha1) ?_
      obtain ⟨h3, G3⟩ := h2.storeValue (i := (av l).toNat) 0 hvv (by omega)
      refine FL.sto _ rfl (st53 rfl rfl rfl (h2.cell .value hvv _ hyv) (h2.unfr .value hvv _)) ?_
      refine FL.nilK ?_
      have h4 := h3.drew
      have hS4 := cellEq h4.f_trail hvt'
      refine (FC.draw (fun w => w.cell? ⟨g, 7, none⟩ = some (.slice (some ⟨bt, 0, none⟩) s1.trail.length ct')) [14] (bA 15 0) (by kernel_rfl) rfl rfl hS4 ?_)
      refine FA.pur (i := 0) (bA 15 1) rfl (by kernel_rfl) rfl rfl (p_move rfl) ?_
      refine FA.pur (i := 1) (bA 15 3) rfl (by kernel_rfl) rfl rfl (p_move rfl) ?_
      refine FA.pur (i := 2) (bA 15 7) rfl (by kernel_rfl) rfl rfl (p_nilCheck rfl) ?_
      refine FA.pur (i := 3) (bA 15 15) rfl (by kernel_rfl) rfl rfl (fld67_7 rfl) ?_
      refine FA.pur (i := 5) (bA 15 47) rfl (by kernel_rfl) rfl rfl (p_move rfl) ?_
      refine FA.pur (i := 6) (bA 15 111) rfl (by kernel_rfl) rfl rfl (p_nilCheck rfl) ?_
      refine FA.pur (i := 7) (bA 15 239) rfl (by kernel_rfl) rfl rfl (fld67_7 rfl) ?_
      refine FA.lod (i := 4) (bA 15 255) rfl (by kernel_rfl) rfl rfl hS4 (fun _ hs => p_load rfl Try.underlying41 rfl hs) ?_
      refine FA.lod (i := 8) (bA 15 511) rfl (by kernel_rfl) rfl rfl hS4 (fun _ hs => p_load rfl Try.underlying41 rfl hs) ?_
      refine FA.pur (i := 9) (bA 15 1023) rfl (by kernel_rfl) rfl rfl (p_len rfl Try.underlying41) ?_
      refine FA.pur (i := 10) (bA 15 2047) rfl (by kernel_rfl) rfl rfl (p_sub rfl rfl (wr (by omega) (by omega))) ?_
      refine FA.pur (i := 11) (bA 15 4095) rfl (by kernel_rfl) rfl rfl (upto41 rfl rfl (by omega) (by omega)) ?_
      refine FA.pur (i := 12) (bA 15 8191) rfl (by kernel_rfl) rfl rfl (p_nilCheck rfl) ?_
      refine FA.pur (i := 13) (bA 15 16383) rfl (by kernel_rfl) rfl rfl (fld67_7 rfl) ?_
      obtain ⟨h5, G5⟩ := h4.setTrail hvt' (k := ((s1.trail.length : Int) - 1).toNat) (by omega)
      refine FA.lastS (i := 14) _ (bA 15 32767) rfl (by kernel_rfl) (by decide) rfl (st41 rfl rfl rfl hS4 (h4.unfrozen 7)) ?_
      refine FA.done (by kernel_rfl) ?_
      have hk : ((s1.trail.length : Int) - 1).toNat = s1.trail.length - 1 := by omega
      have hpop : ({ s1 with value := s1.value.set (av l).toNat 0, trail := s1.trail.take ((s1.trail.length : Int) - 1).toNat } : S) = popS s1 := by simp only [popS, hl, hk]
      have e1 : s1.trail.length - (rd s.marks lev).toNat = (s1.trail.length - 1 - (rd s.marks lev).toNat) + 1 := by omega
      refine blk_normal ⟨(popS s1, _), ⟨rfl, rfl, trivial⟩, ⟨hpop ▸ h5, ((G1.drew.drew.trans G3).drew.trans G5), hmk, by simp [popS, hv1], fun l hl => ht1 l (List.mem_of_mem_take hl), by simp [popS]; omega, ?_⟩, by simp [popS]; omega⟩
      rw [← hund, e1]
      simp only [undoTo, popS, List.length_take]
      congr 1
      omega
    · have hge : ¬ rd s.marks lev < (s1.trail.length : Int) := of_decide_eq_false hc
      have e0 : s1.trail.length - (rd s.marks lev).toNat = 0 := by omega
      rw [e0] at hund
      refine thn_exit (thn_exit (blk_exit ⟨(s1, V1), ⟨rfl, rfl, trivial⟩, h1d, G1.drew, hund, hmk⟩))
  · rintro ⟨s1, V1⟩ w1 ⟨h1, G1, hs1, hmk⟩
    simp only at h1 G1 hs1 hmk
    have h1d := h1.drew
    obtain ⟨At, ct, hvt, hct, hct'⟩ := h1d.lenOf .trail s1.trail.length (by simp [C, nums])
    obtain ⟨Am, cm, hvm, hcm, hcm'⟩ := h1d.lenOf .marks s1.marks.length (by simp [C, nums])
    have hS := And.intro (cellEq h1d.f_marks hvm) (cellEq h1d.f_trail hvt)
    have hcm0 : lev ≤ cm := by rw [hmk] at hcm; omega
    refine (FC.draw (fun w => w.cell? ⟨g, 8, none⟩ = some (.slice Am s1.marks.length cm) ∧ w.cell? ⟨g, 7, none⟩ = some (.slice At s1.trail.length ct)) [15, 18] (bA 19 0) (by kernel_rfl) rfl rfl hS ?_)
    refine FA.pur (i := 0) (bA 19 1) rfl (by kernel_rfl) rfl rfl (p_move rfl) ?_
    refine FA.pur (i := 1) (bA 19 3) rfl (by kernel_rfl) rfl rfl (p_move rfl) ?_
    refine FA.pur (i := 2) (bA 19 7) rfl (by kernel_rfl) rfl rfl (p_move rfl) ?_
    refine FA.pur (i := 3) (bA 19 15) rfl (by kernel_rfl) rfl rfl (p_nilCheck rfl) ?_
    refine FA.pur (i := 4) (bA 19 31) rfl (by kernel_rfl) rfl rfl (fld67_8 rfl) ?_
    refine FA.pur (i := 6) (bA 19 95) rfl (by kernel_rfl) rfl rfl (p_move rfl) ?_
    refine FA.pur (i := 8) (bA 19 351) rfl (by kernel_rfl) rfl rfl (p_move rfl) ?_
    refine FA.pur (i := 9) (bA 19 863) rfl (by kernel_rfl) rfl rfl (p_nilCheck rfl) ?_
    refine FA.pur (i := 10) (bA 19 1887) rfl (by kernel_rfl) rfl rfl (fld67_7 rfl) ?_
    refine FA.lod (i := 5) (bA 19 1919) rfl (by kernel_rfl) rfl rfl hS (fun _ hs => p_load rfl Try.underlying41 rfl hs.1) ?_
    refine FA.pur (i := 7) (bA 19 2047) rfl (by kernel_rfl) rfl rfl (upto41 rfl rfl hl0 hcm0) ?_
    refine FA.lod (i := 11) (bA 19 4095) rfl (by kernel_rfl) rfl rfl hS (fun _ hs => p_load rfl Try.underlying41 rfl hs.2) ?_
    refine FA.pur (i := 12) (bA 19 8191) rfl (by kernel_rfl) rfl rfl (p_len rfl Try.underlying41) ?_
    refine FA.pur (i := 13) (bA 19 16383) rfl (by kernel_rfl) rfl rfl (p_nilCheck rfl) ?_
    refine FA.pur (i := 14) (bA 19 32767) rfl (by kernel_rfl) rfl rfl (fld67_8 rfl) ?_
    obtain ⟨h5, G5⟩ := h1d.setMarks hvm (k := lev.toNat) (by rw [hmk]; omega)
    refine FA.lastS (i := 15) _ (bA 19 65535) rfl (by kernel_rfl) (by decide) rfl (st41 rfl rfl rfl hS.1 (h1d.unfrozen 8)) ?_
    refine FA.pur (i := 16) (bA 19 131071) rfl (by kernel_rfl) rfl rfl (p_nilCheck rfl) ?_
    refine FA.pur (i := 17) (bA 19 262143) rfl (by kernel_rfl) rfl rfl (fld67_9 rfl) ?_
    obtain ⟨h6, G6⟩ := h5.setHead s1.trail.length
    refine FA.lastS (i := 18) _ (bA 19 524287) rfl (by kernel_rfl) (by decide) rfl (st3 rfl rfl rfl h5.f_head (h5.unfrozen 9)) ?_
    refine FA.done (by kernel_rfl) ?_
    have hfin : undoS s lev = { s1 with marks := s1.marks.take lev.toNat, head := (s1.trail.length : Int) } := by
      simp only [undoS, ← hs1, hmk]
    exact end0 Try.results48 ⟨rfl, _, by rw [hfin]; exact h6, (G1.drew.trans G5).trans G6⟩
end
end Go.Proofs.Ytcahhbcehnbdkaa.Sv

/- The search as plain functions, and what stays true of it. No program here. -/
namespace Go.Proofs.Ytcahhbcehnbdkaa.Sv
open Go.RowKit Go.Proofs.YtcahhbcehnbdkaaW.PrintWords

def cl (s : S) (i : Int) : List Int := s.clauses.getD i.toNat []
def setCl (s : S) (i : Int) (c : List Int) : S := { s with clauses := s.clauses.set i.toNat c }
def swp (c : List Int) (a b : Int) : List Int := (c.set a.toNat (rd c b)).set b.toNat (rd c a)
def front (out : Int) (c : List Int) : List Int := if rd c 0 = out then swp c 0 1 else c
def other (s : S) (c : List Int) : Nat → Nat → Option Nat
  | 0, _ => none
  | f + 1, k => if k < c.length then (if ofv s (rd c k) = -1 then other s c f (k + 1) else some k) else none
def findO (s : S) (c : List Int) : Option Nat := other s c c.length 2
def setRow (s : S) (q : Nat) (l : List Int) : S := { s with watch := s.watch.set q l }
def pushRow (s : S) (q : Nat) (x : Int) : S := { s with watch := pushW s.watch q x }
def inner (q0 : Nat) (out : Int) : List Int → S → List Int → S × Option Int
  | [], s, kept => (setRow s q0 kept, none)
  | i :: rest, s, kept =>
    if ofv s (rd (front out (cl s i)) 0) = 1 then inner q0 out rest (setCl s i (front out (cl s i))) (kept ++ [i])
    else match findO s (front out (cl s i)) with
      | some k => inner q0 out rest (pushRow (setCl s i (swp (front out (cl s i)) 1 k)) (codeL (rd (front out (cl s i)) k)).toNat i) kept
      | none =>
        if ofv s (rd (front out (cl s i)) 0) = -1 then (setRow (setCl s i (front out (cl s i))) q0 (kept ++ i :: rest), some i)
        else inner q0 out rest (setS (setCl s i (front out (cl s i))) (rd (front out (cl s i)) 0) i) (kept ++ [i])
def outL (s : S) : Int := -(rd s.trail s.head)
def qOf (s : S) : Nat := (codeL (outL s)).toNat
def nextS (s : S) : S × Option Int := inner (qOf s) (outL s) (s.watch.getD (qOf s) []) { s with head := s.head + 1 } []
def prop : Nat → S → S × Int
  | 0, s => (s, -1)
  | f + 1, s => if s.head < s.trail.length then
      (match (nextS s).2 with
        | some i => ((nextS s).1, i)
        | none => prop f (nextS s).1)
    else (s, -1)

/-! ### Lists -/
theorem rd_of_lt (c : List Int) (i : Int) (h0 : 0 ≤ i) (h1 : i < c.length) : rd c i = c[i.toNat]'(by omega) := by
  have : i.toNat < c.length := by omega
  simp [rd, List.getD_eq_getElem?_getD, List.getElem?_eq_getElem this]
theorem swp_length (c : List Int) (a b : Int) : (swp c a b).length = c.length := by simp [swp]
theorem swp_mem {c : List Int} {a b : Int} (ha : 0 ≤ a) (ha' : a < c.length) (hb : 0 ≤ b) (hb' : b < c.length) {l : Int} (h : l ∈ swp c a b) : l ∈ c := by
  unfold swp at h
  rcases List.mem_or_eq_of_mem_set h with h1 | h1
  · rcases List.mem_or_eq_of_mem_set h1 with h2 | h2
    · exact h2
    · rw [h2]; exact rd_mem c b hb hb'
  · rw [h1]; exact rd_mem c a ha ha'
theorem front_length (out : Int) (c : List Int) : (front out c).length = c.length := by unfold front; split <;> simp [swp_length]
theorem front_mem {out : Int} {c : List Int} (h2 : 2 ≤ c.length) {l : Int} (h : l ∈ front out c) : l ∈ c := by
  unfold front at h
  split at h
  · exact swp_mem (by omega) (by omega) (by omega) (by omega) h
  · exact h
theorem other_spec (s : S) (c : List Int) : ∀ (f k j : Nat), other s c f k = some j → k ≤ j ∧ j < c.length ∧ ofv s (rd c j) ≠ -1
  | 0, _, _, h => by simp [other] at h
  | f + 1, k, j, h => by
    unfold other at h
    split at h
    · split at h
      · obtain ⟨h1, h2, h3⟩ := other_spec s c f (k + 1) j h
        exact ⟨by omega, h2, h3⟩
      · injection h with h; subst h
        exact ⟨Nat.le_refl _, by assumption, by assumption⟩
    · cases h
theorem other_none (s : S) (c : List Int) : ∀ (f k : Nat), c.length ≤ k + f → other s c f k = none → ∀ j, k ≤ j → j < c.length → ofv s (rd c j) = -1
  | 0, k, hf, _, j, h1, h2 => by omega
  | f + 1, k, hf, h, j, h1, h2 => by
    unfold other at h
    split at h
    · split at h
      · by_cases e : j = k
        · subst e; assumption
        · exact other_none s c f (k + 1) (by omega) h j (by omega) h2
      · cases h
    · omega
/-- The search through a clause: from k on it is the same whatever the fuel, once it is enough. -/
theorem other_fuel (s : S) (c : List Int) : ∀ (f k : Nat), c.length ≤ k + f → other s c f k = other s c (f + 1) k
  | 0, k, hf => by
    have : ¬ k < c.length := by omega
    simp [other, this]
  | f + 1, k, hf => by
    unfold other
    split
    · split
      · exact other_fuel s c f (k + 1) (by omega)
      · rfl
    · rfl

/-! ### What stays true -/
def zeros (l : List Int) : Nat := (l.filter (· == 0)).length
theorem zeros_set_ne {l : List Int} {i : Nat} (hi : i < l.length) (h0 : l[i] = 0) {x : Int} (hx : x ≠ 0) : zeros (l.set i x) + 1 = zeros l := by
  induction l generalizing i with
  | nil => simp at hi
  | cons a l ih =>
    cases i with
    | zero =>
      simp only [List.getElem_cons_zero] at h0
      subst h0
      simp [zeros, hx]
    | succ i =>
      simp only [List.getElem_cons_succ] at h0
      have := ih (by simpa using hi) h0
      simp only [zeros, List.set_cons_succ, List.filter_cons] at this ⊢
      split <;> simp_all <;> omega

structure Good (s : S) (n T : Nat) : Prop where
  value : s.value.length = n
  level : s.level.length = n
  reason : s.reason.length = n
  watch : s.watch.length = 2 * n
  small : Small s.value
  nmax : n < 1099511627776
  cls : s.clauses.length < 1099511627776
  cl : ∀ c ∈ s.clauses, ∀ l ∈ c, Lit n l
  wt : ∀ r ∈ s.watch, ∀ i ∈ r, 0 ≤ i ∧ i < s.clauses.length ∧ 2 ≤ (s.clauses.getD i.toNat []).length
  ws : (s.watch.map List.length).sum ≤ T
  tmax : T < 1099511627774
  tr : s.trail.length + zeros s.value ≤ n
  trl : ∀ l ∈ s.trail, Lit n l
  hd0 : 0 ≤ s.head
  hd1 : s.head ≤ s.trail.length
  nzc : ∀ c ∈ s.clauses, ∀ l ∈ c, l ≠ 0
  nzt : ∀ l ∈ s.trail, l ≠ 0
  tt : ∀ l ∈ s.trail, ofv s l = 1

theorem Good.fine {s : S} {n T : Nat} (h : Good s n T) : Fine s n :=
  ⟨h.value, h.level, h.reason, h.watch, h.small, h.nmax, by have := h.tr; have := h.nmax; omega, h.cls⟩
theorem Lit.neg {n : Nat} {l : Int} (h : Lit n l) : Lit n (-l) := by obtain ⟨h1, h2⟩ := h; exact ⟨by omega, by omega⟩
theorem Lit.code {n : Nat} {l : Int} (h : Lit n l) : 0 ≤ codeL l ∧ codeL l < 2 * n := by obtain ⟨h1, h2⟩ := h; unfold codeL; split <;> omega
theorem codeL_inj {a b : Int} (h : codeL a = codeL b) : a = b := by unfold codeL at h; split at h <;> split at h <;> omega
theorem sum_set (l : List (List Int)) (q : Nat) (x : List Int) (h : q < l.length) : ((l.set q x).map List.length).sum + (l.getD q []).length = (l.map List.length).sum + x.length := by
  induction l generalizing q with
  | nil => simp at h
  | cons a l ih =>
    cases q with
    | zero => simp; omega
    | succ q =>
      have := ih q (by simpa using h)
      simp only [List.set_cons_succ, List.map_cons, List.sum_cons, List.getD_cons_succ] at this ⊢
      omega
theorem le_sum (l : List (List Int)) (q : Nat) : (l.getD q []).length ≤ (l.map List.length).sum := by
  induction l generalizing q with
  | nil => simp
  | cons a l ih =>
    cases q with
    | zero => simp
    | succ q => have := ih q; simp only [List.getD_cons_succ, List.map_cons, List.sum_cons]; omega
theorem mem_getD {α : Type} {l : List α} {i : Nat} {d : α} (h : i < l.length) : l.getD i d ∈ l := by
  simp [List.getD_eq_getElem?_getD, List.getElem?_eq_getElem h]
theorem getD_set_self {α : Type} {l : List α} {i : Nat} {d x : α} (h : i < l.length) : (l.set i x).getD i d = x := by
  simp [List.getD_eq_getElem?_getD, h]
theorem getD_set_other {α : Type} {l : List α} {i j : Nat} {d x : α} (h : i ≠ j) : (l.set i x).getD j d = l.getD j d := by
  simp [List.getD_eq_getElem?_getD, List.getElem?_set_ne h]

theorem ofv_small {s : S} {n : Nat} (hv : s.value.length = n) (hs : Small s.value) {l : Int} (hl : Lit n l) : -1 ≤ ofv s l ∧ ofv s l ≤ 1 := by
  obtain ⟨h1, h2⟩ := hl
  unfold ofv
  split
  · have := hs _ (rd_mem s.value (-l) (by omega) (by omega)); omega
  · have := hs _ (rd_mem s.value l (by omega) (by omega)); omega
theorem ofv_zero {s : S} {n : Nat} (hv : s.value.length = n) {l : Int} (hl : Lit n l) (h0 : ofv s l = 0) : ∃ h : (av l).toNat < s.value.length, s.value[(av l).toNat] = 0 := by
  obtain ⟨h1, h2⟩ := hl
  have ha : (av l).toNat < s.value.length := by unfold av; omega
  refine ⟨ha, ?_⟩
  unfold ofv at h0
  by_cases c : l < 0
  · rw [if_pos c, rd_of_lt _ _ (by omega) (by omega)] at h0
    have e : (av l).toNat = (-l).toNat := by unfold av; omega
    simp only [e]; omega
  · rw [if_neg c, rd_of_lt _ _ (by omega) (by omega)] at h0
    have e : (av l).toNat = l.toNat := by unfold av; omega
    simp only [e]; exact h0

/-- A clause is turned in its place. -/
theorem Good.setCl {s : S} {n T : Nat} (h : Good s n T) {i : Int} {c : List Int} (hi : i.toNat < s.clauses.length) (hl : c.length = (Sv.cl s i).length) (hm : ∀ l ∈ c, l ∈ Sv.cl s i) : Good (setCl s i c) n T := by
  refine { h with nzc := fun c' hc' l hl' => ?_, cls := by simpa [Sv.setCl] using h.cls, cl := fun c' hc' l hl' => ?_, wt := fun r hr j hj => ?_ }
  · rcases List.mem_or_eq_of_mem_set hc' with h1 | h1
    · exact h.cl c' h1 l hl'
    · subst h1; exact h.cl _ (mem_getD hi) l (hm l hl')
  · obtain ⟨h1, h2, h3⟩ := h.wt r hr j hj
    refine ⟨h1, by simpa [Sv.setCl] using h2, ?_⟩
    show 2 ≤ ((s.clauses.set i.toNat c).getD j.toNat []).length
    by_cases e : i.toNat = j.toNat
    · rw [← e, getD_set_self hi, hl]; unfold Sv.cl; rw [e]; exact h3
    · rw [getD_set_other e]; exact h3
  · rcases List.mem_or_eq_of_mem_set hc' with h1 | h1
    · exact h.nzc c' h1 l hl'
    · subst h1; exact h.nzc _ (mem_getD hi) l (hm l hl')
/-- A row of the watch lists is turned. -/
theorem Good.setRow {s : S} {n T : Nat} (h : Good s n T) (q : Nat) {l : List Int} (hm : ∀ i ∈ l, 0 ≤ i ∧ i < s.clauses.length ∧ 2 ≤ (s.clauses.getD i.toNat []).length) (hs : ((s.watch.set q l).map List.length).sum ≤ T) : Good (setRow s q l) n T := by
  refine { h with watch := by simpa [Sv.setRow] using h.watch, wt := fun r hr j hj => ?_, ws := hs }
  rcases List.mem_or_eq_of_mem_set hr with h1 | h1
  · exact h.wt r h1 j hj
  · subst h1; exact hm j hj
theorem ofv_neg {s : S} {l : Int} (h : l ≠ 0) : ofv s (-l) = -ofv s l := by
  unfold ofv
  by_cases c : l < 0
  · rw [if_neg (by omega), if_pos c]; simp
  · rw [if_pos (by omega), if_neg c]; simp
theorem av_lt {n : Nat} {l : Int} (h : Lit n l) : (av l).toNat < n := by obtain ⟨h1, h2⟩ := h; unfold av; omega
theorem av_inj {a b : Int} (h : (av a).toNat = (av b).toNat) : a = b ∨ a = -b := by unfold av at h; omega
/-- What a literal is worth behind another was set. -/
theorem ofv_set_self {s : S} {n : Nat} (hv : s.value.length = n) {l r : Int} (hl : Lit n l) : ofv (setS s l r) l = 1 := by
  have ha := av_lt hl
  obtain ⟨h1, h2⟩ := hl
  unfold ofv setS
  simp only
  by_cases c : l < 0
  · rw [if_pos c, if_pos c]
    have e : (-l).toNat = (av l).toNat := by unfold av; omega
    have : rd (s.value.set (av l).toNat (-1)) (-l) = -1 := by unfold rd; rw [e, getD_set_self (by omega)]
    rw [this]; rfl
  · rw [if_neg c, if_neg c]
    have e : l.toNat = (av l).toNat := by unfold av; omega
    unfold rd; rw [e, getD_set_self (by omega)]
theorem ofv_set_other {s : S} {l r x : Int} (h : (av l).toNat ≠ (av x).toNat) : ofv (setS s l r) x = ofv s x := by
  unfold ofv setS
  simp only
  by_cases c : x < 0
  · rw [if_pos c, if_pos c]
    have e : (-x).toNat = (av x).toNat := by unfold av; omega
    unfold rd; rw [e, getD_set_other h]
  · rw [if_neg c, if_neg c]
    have e : x.toNat = (av x).toNat := by unfold av; omega
    unfold rd; rw [e, getD_set_other h]
theorem av_neg (x : Int) : av (-x) = av x := by unfold av; omega
/-- An open literal is made true. -/
theorem Good.setS {s : S} {n T : Nat} (h : Good s n T) {l r : Int} (hl : Lit n l) (hz : l ≠ 0) (h0 : ofv s l = 0) : Good (setS s l r) n T := by
  obtain ⟨hlt, hz0⟩ := ofv_zero h.value hl h0
  refine { h with value := by simp [Sv.setS, h.value], level := by simp [Sv.setS, h.level], reason := by simp [Sv.setS, h.reason], small := small_set h.small _ l, tr := ?_, trl := fun x hx => ?_, hd1 := ?_, nzt := fun x hx => ?_, tt := fun x hx => ?_ }
  · have := zeros_set_ne hlt hz0 (x := if l < 0 then -1 else 1) (by split <;> omega)
    have := h.tr
    simp only [Sv.setS, List.length_append, List.length_singleton]
    omega
  · simp only [Sv.setS, List.mem_append, List.mem_singleton] at hx
    rcases hx with hx | rfl
    · exact h.trl x hx
    · exact hl
  · have := h.hd1; simp only [Sv.setS, List.length_append, List.length_singleton]; omega
  · simp only [Sv.setS, List.mem_append, List.mem_singleton] at hx
    rcases hx with hx | rfl
    · exact h.nzt x hx
    · exact hz
  · simp only [Sv.setS, List.mem_append, List.mem_singleton] at hx
    rcases hx with hx | rfl
    · have h1 := h.tt x hx
      have hne : (av l).toNat ≠ (av x).toNat := by
        intro e
        rcases av_inj e with rfl | rfl
        · omega
        · rw [ofv_neg (h.nzt x hx)] at h0; omega
      rw [ofv_set_other hne]; exact h1
    · exact ofv_set_self h.value hl

/-! ### One number of a watch list -/
theorem drop_cons (old : List Int) (m : Nat) (h : m < old.length) : old.drop m = rd old m :: old.drop (m + 1) := by
  rw [List.drop_eq_getElem_cons h, rd_of_lt _ _ (by omega) (by omega)]
  simp
structure Inner (s : S) (n T : Nat) (q0 : Nat) (out : Int) (kept rest : List Int) : Prop where
  good : Good (setRow s q0 (kept ++ rest)) n T
  q0lt : q0 < 2 * n
  outq : q0 = (codeL out).toNat
  isout : ∃ l ∈ s.trail, out = -l
theorem Inner.false_ {s : S} {n T q0 : Nat} {out : Int} {kept rest : List Int} (h : Inner s n T q0 out kept rest) : ofv s out = -1 := by
  obtain ⟨l, hl, rfl⟩ := h.isout
  have h1 := h.good.tt l hl
  have h2 := h.good.nzt l hl
  have h1' : ofv s l = 1 := h1
  rw [ofv_neg h2, h1']
theorem Inner.entry {s : S} {n T q0 : Nat} {out i : Int} {kept rest : List Int} (h : Inner s n T q0 out kept (i :: rest)) : 0 ≤ i ∧ i < s.clauses.length ∧ 2 ≤ (cl s i).length ∧ (∀ l ∈ cl s i, Lit n l ∧ l ≠ 0) := by
  have hw : s.watch.length = 2 * n := by have := h.good.watch; simpa [setRow] using this
  have hg : (setRow s q0 (kept ++ i :: rest)).watch.getD q0 [] = kept ++ i :: rest := getD_set_self (by rw [hw]; exact h.q0lt)
  have hmem := mem_getD (l := (setRow s q0 (kept ++ i :: rest)).watch) (i := q0) (d := []) (by show q0 < (s.watch.set q0 _).length; rw [List.length_set, hw]; exact h.q0lt)
  rw [hg] at hmem
  obtain ⟨h1, h2, h3⟩ := h.good.wt (kept ++ i :: rest) hmem i (by simp)
  refine ⟨h1, h2, h3, fun l hl => ⟨h.good.cl _ (mem_getD (by show i.toNat < s.clauses.length; have : i < s.clauses.length := h2; omega)) l hl, h.good.nzc _ (mem_getD (by show i.toNat < s.clauses.length; have : i < s.clauses.length := h2; omega)) l hl⟩⟩
theorem Inner.lenw {s : S} {n T q0 : Nat} {out : Int} {kept rest : List Int} (h : Inner s n T q0 out kept rest) : s.watch.length = 2 * n := by have := h.good.watch; simpa [setRow] using this
/-- The clause is turned. -/
theorem Inner.turned {s : S} {n T q0 : Nat} {out i : Int} {kept rest : List Int} (h : Inner s n T q0 out kept (i :: rest)) {c : List Int} (hl : c.length = (cl s i).length) (hm : ∀ l ∈ c, l ∈ cl s i) : Inner (setCl s i c) n T q0 out kept (i :: rest) := by
  obtain ⟨h1, h2, h3, h4⟩ := h.entry
  exact ⟨h.good.setCl (i := i) (by show i.toNat < s.clauses.length; omega) hl hm, h.q0lt, h.outq, h.isout⟩
theorem Inner.kept {s : S} {n T q0 : Nat} {out i : Int} {kept rest : List Int} (h : Inner s n T q0 out kept (i :: rest)) : Inner s n T q0 out (kept ++ [i]) rest :=
  ⟨by rw [List.append_assoc, List.singleton_append]; exact h.good, h.q0lt, h.outq, h.isout⟩
theorem mem_set2 {l : List (List Int)} {p q0 : Nat} {x y a r : List Int} (hne : p ≠ q0) (h : r ∈ (l.set p x).set q0 y) : r = y ∨ r = x ∨ r ∈ l.set q0 a := by
  obtain ⟨t, ht, rfl⟩ := List.mem_iff_getElem.1 h
  by_cases c1 : q0 = t
  · left; subst c1; simp
  · by_cases c2 : p = t
    · right; left; subst c2; simp [List.getElem_set, c1]
    · right; right; exact List.mem_iff_getElem.2 ⟨t, by simpa using ht, by simp [List.getElem_set, c1, c2]⟩
/-- The number goes to another list. -/
theorem Inner.move {s : S} {n T q0 : Nat} {out i : Int} {kept rest : List Int} (h : Inner s n T q0 out kept (i :: rest)) {l : Int} (hl : Lit n l) (hv : ofv s l ≠ -1) : (codeL l).toNat ≠ q0 ∧ Inner (pushRow s (codeL l).toNat i) n T q0 out kept rest := by
  have hne : (codeL l).toNat ≠ q0 := by
    rw [h.outq]
    intro e
    have hc := hl.code
    have ho : Lit n out := by obtain ⟨x, hx, rfl⟩ := h.isout; exact (h.good.trl x hx).neg
    have := codeL_inj (a := l) (b := out) (by have := ho.code; omega)
    subst this
    exact hv h.false_
  refine ⟨hne, ⟨?_, h.q0lt, h.outq, h.isout⟩⟩
  have hw := h.lenw
  have hlt : (codeL l).toNat < s.watch.length := by have := hl.code; omega
  obtain ⟨h1, h2, h3, h4⟩ := h.entry
  have hgood := h.good
  have e1 : (pushRow s (codeL l).toNat i).watch.length = s.watch.length := by simp [pushRow, pushW]
  have hval : ∀ j ∈ kept ++ rest, 0 ≤ j ∧ j < s.clauses.length ∧ 2 ≤ (s.clauses.getD j.toNat []).length := by
    intro j hj
    have hg : (setRow s q0 (kept ++ i :: rest)).watch.getD q0 [] = kept ++ i :: rest := getD_set_self (by rw [hw]; exact h.q0lt)
    have hmem := mem_getD (l := (setRow s q0 (kept ++ i :: rest)).watch) (i := q0) (d := []) (by show q0 < (s.watch.set q0 _).length; rw [List.length_set, hw]; exact h.q0lt)
    rw [hg] at hmem
    exact hgood.wt (kept ++ i :: rest) hmem j (by simp at hj ⊢; rcases hj with hj | hj <;> simp [hj])
  have hs0 := sum_set s.watch q0 (kept ++ i :: rest) (by rw [hw]; exact h.q0lt)
  have hs1 := sum_set s.watch (codeL l).toNat (s.watch.getD (codeL l).toNat [] ++ [i]) hlt
  have hs2 := sum_set (pushRow s (codeL l).toNat i).watch q0 (kept ++ rest) (by rw [e1, hw]; exact h.q0lt)
  have hgq : (pushRow s (codeL l).toNat i).watch.getD q0 [] = s.watch.getD q0 [] := getD_set_other hne
  have hws : ((s.watch.set q0 (kept ++ i :: rest)).map List.length).sum ≤ T := hgood.ws
  refine { hgood with watch := by show (List.set _ _ _).length = _; rw [List.length_set, e1, hw], wt := fun r hr j hj => ?_, ws := ?_ }
  · rcases mem_set2 (a := kept ++ i :: rest) hne hr with h5 | h5 | h5
    · subst h5; exact hval j hj
    · subst h5
      rcases List.mem_append.1 hj with h6 | h6
      · refine hgood.wt (s.watch.getD (codeL l).toNat []) ?_ j h6
        have : (s.watch.set q0 (kept ++ i :: rest)).getD (codeL l).toNat [] = s.watch.getD (codeL l).toNat [] := getD_set_other (Ne.symm hne)
        rw [← this]
        exact mem_getD (by show _ < (s.watch.set q0 _).length; rw [List.length_set]; exact hlt)
      · rw [List.mem_singleton] at h6; subst h6; exact ⟨h1, h2, h3⟩
    · exact hgood.wt r h5 j hj
  · show (((pushRow s (codeL l).toNat i).watch.set q0 (kept ++ rest)).map List.length).sum ≤ T
    rw [hgq] at hs2
    have e2 : ((pushRow s (codeL l).toNat i).watch.map List.length).sum = ((s.watch.set (codeL l).toNat (s.watch.getD (codeL l).toNat [] ++ [i])).map List.length).sum := rfl
    rw [e2] at hs2
    simp only [List.length_append, List.length_cons, List.length_nil] at hs0 hs1 hs2
    omega
theorem Inner.take {s : S} {n T q0 : Nat} {out r : Int} {kept rest : List Int} (h : Inner s n T q0 out kept rest) {l : Int} (hl : Lit n l) (hz : l ≠ 0) (h0 : ofv s l = 0) : Inner (setS s l r) n T q0 out kept rest :=
  ⟨h.good.setS hl hz h0, h.q0lt, h.outq, by obtain ⟨x, hx, e⟩ := h.isout; exact ⟨x, by simp [setS, hx], e⟩⟩
theorem setCl_setCl (s : S) (i : Int) (a b : List Int) : setCl (setCl s i a) i b = setCl s i b := by simp [setCl]
theorem cl_setCl (s : S) (i : Int) (a : List Int) (h : i.toNat < s.clauses.length) : cl (setCl s i a) i = a := getD_set_self h
end Go.Proofs.Ytcahhbcehnbdkaa.Sv

/- Stores into clauses and into watch lists. -/
namespace Go.Proofs.Ytcahhbcehnbdkaa.Sv
open Go.RowKit Go.Proofs.YtcahhbcehnbdkaaW.PrintWords Go.Proofs.Ytcahhbcehnbdkaa.Eng
section
variable {w w1 : World} {B g : Nat} {s s' : S} {V : Lay}

theorem Srch.storeClause (h : Srch w B g s V) {i b n cap k : Nat} (x : Int) (hi : i < s.clauses.length) (hv : V (.clause i) = .slice (some ⟨b, 0, none⟩) n cap) (hk : k < n) :
    Srch (w.setCell ⟨b, k, none⟩ (.int .i64 x)) B g { s with clauses := s.clauses.set i ((s.clauses.getD i []).set k x) } V ∧ Goes g V w V (w.setCell ⟨b, k, none⟩ (.int .i64 x)) := by
  refine h.store (s' := { s with clauses := s.clauses.set i ((s.clauses.getD i []).set k x) }) (.clause i) hv hk _ (fun r' => ?_) ?_ (by simp) rfl rfl
  · cases r' with
    | clause j =>
      by_cases e : j = i
      · subst e
        simp only [if_true, C]
        rw [getD_set_self hi]
        simp [nums, List.map_set]
      · rw [if_neg (by simpa using e)]
        simp only [C]
        rw [getD_set_other (fun h => e h.symm)]
    | clauses => simp [C]
    | _ => simp [C]
  · simp [cellsS]
theorem Srch.storeRow (h : Srch w B g s V) {q b n cap k : Nat} (x : Int) (hq : q < s.watch.length) (hv : V (.wrow q) = .slice (some ⟨b, 0, none⟩) n cap) (hk : k < n) :
    Srch (w.setCell ⟨b, k, none⟩ (.int .i64 x)) B g (setRow s q ((s.watch.getD q []).set k x)) V ∧ Goes g V w V (w.setCell ⟨b, k, none⟩ (.int .i64 x)) := by
  refine h.store (s' := setRow s q ((s.watch.getD q []).set k x)) (.wrow q) hv hk _ (fun r' => ?_) ?_ rfl (by simp [setRow]) rfl
  · cases r' with
    | wrow j =>
      by_cases e : j = q
      · subst e
        simp only [if_true, C, setRow]
        rw [getD_set_self hq]
        simp [nums, List.map_set]
      · rw [if_neg (by simpa using e)]
        simp only [C, setRow]
        rw [getD_set_other (fun h => e h.symm)]
    | watch => simp [C, setRow]
    | _ => simp [C, setRow]
  · simp [cellsS, setRow]
theorem setRow_setRow (s : S) (q : Nat) (a b : List Int) : setRow (setRow s q a) q b = setRow s q b := by simp [setRow]
theorem setRow_getD (s : S) (q : Nat) (a : List Int) (h : q < s.watch.length) : (setRow s q a).watch.getD q [] = a := getD_set_self h
theorem splice_step (L : List Int) (k : Nat) (x : Int) (xs : List Int) (h : k < L.length) :
    (L.set k x).take (k + 1) ++ xs ++ (L.set k x).drop (k + 1 + xs.length) = L.take k ++ (x :: xs) ++ L.drop (k + (x :: xs).length) := by
  have h1 : (L.set k x).take (k + 1) = L.take k ++ [x] := by
    rw [List.take_add_one, List.take_set_of_le (Nat.le_refl k)]
    simp [h]
  have h2 : (L.set k x).drop (k + 1 + xs.length) = L.drop (k + (x :: xs).length) := by
    rw [List.drop_set_of_lt (by omega)]
    simp [Nat.add_assoc, Nat.add_comm 1]
  rw [h1, h2]
  simp
theorem Srch.storeRowMany {q b n cap : Nat} : ∀ (xs : List Int) (k : Nat) (s : S) (w : World), Srch w B g s V → q < s.watch.length → V (.wrow q) = .slice (some ⟨b, 0, none⟩) n cap → (s.watch.getD q []).length = n → k + xs.length ≤ n →
    Srch (w.setCells b k (nums .i64 xs)) B g (setRow s q ((s.watch.getD q []).take k ++ xs ++ (s.watch.getD q []).drop (k + xs.length))) V ∧ Goes g V w V (w.setCells b k (nums .i64 xs))
  | [], k, s, w, h, hq, hv, hn, hk => by
    have e : setRow s q ((s.watch.getD q []).take k ++ [] ++ (s.watch.getD q []).drop (k + ([] : List Int).length)) = s := by
      simp only [List.append_nil, List.length_nil, Nat.add_zero, List.take_append_drop]
      simp only [setRow]
      have : s.watch.set q (s.watch.getD q []) = s.watch := by
        apply List.ext_getElem
        · simp
        · intro i h1 h2
          rw [List.getElem_set]
          split
          · rename_i e; subst e; simp [List.getD_eq_getElem?_getD, hq]
          · rfl
      rw [this]
    rw [e]
    exact ⟨h, Goes.refl g V w⟩
  | x :: xs, k, s, w, h, hq, hv, hn, hk => by
    simp only [List.length_cons] at hk
    obtain ⟨h1, G1⟩ := h.storeRow (k := k) x hq hv (by omega)
    have hL := setRow_getD s q ((s.watch.getD q []).set k x) hq
    obtain ⟨h2, G2⟩ := Srch.storeRowMany xs (k + 1) _ _ h1 (by simpa [setRow] using hq) hv (by rw [hL]; simpa using hn) (by omega)
    rw [hL, setRow_setRow, splice_step _ _ _ _ (by omega)] at h2
    exact ⟨h2, G1.trans G2⟩
/-- A watch list takes its first k elements, in its place in the row of watch lists. -/
theorem Srch.cutRow (h : Srch w B g s V) {q : Nat} {A : Option Addr} {n cap k bo no co : Nat} (hv : V (.wrow q) = .slice A n cap) (hk : k ≤ n) (hvo : V .watch = .slice (some ⟨bo, 0, none⟩) no co) (hq : q < s.watch.length) :
    Srch (w.setCell ⟨bo, q, none⟩ (.slice A k cap)) B g (setRow s q ((s.watch.getD q []).take k)) (upd V (.wrow q) (.slice A k cap)) ∧ Goes g V w (upd V (.wrow q) (.slice A k cap)) (w.setCell ⟨bo, q, none⟩ (.slice A k cap)) := by
  have hno : s.watch.length = no := by have := h.lenC .watch hvo; simpa [C, rowsOf_length] using this
  refine h.turnIn (s' := setRow s q ((s.watch.getD q []).take k)) (.wrow q) .watch q (h.grewTake (.wrow q) hv hk) hvo (by omega) (by simp) ?_ (fun r' h1 h2 => ?_) ?_ ?_ rfl (by simp [setRow]) rfl (fun i => ⟨fun e => by simp at e, fun e => by injection e with e; omega, fun e => by simp at e⟩)
  · simp [cellsS, upd, setRow]
  · cases r' with
    | wrow i =>
      have : q ≠ i := fun e => h1 (by rw [e])
      simp only [C, setRow]
      rw [getD_set_other this]
    | watch => exact absurd rfl h2
    | clauses => simp [C, upd, setRow]
    | proof => simp [C, upd, setRow]
    | _ => rfl
  · simp only [C, setRow]
    rw [getD_set_self hq]
    simp [nums, List.map_take]
  · simp only [C, setRow, List.length_set]
    rw [rowsOf_set]
    refine rowsOf_congr fun i hi => ?_
    simp only [upd, Role.wrow.injEq]
end
end Go.Proofs.Ytcahhbcehnbdkaa.Sv

/- Walks of the stable sort: the comparison, swapping ranges, insertion. -/
namespace Go.Proofs.Ytcahhbcehnbdkaa.Sv
open Go.RowKit Go.Proofs.YtcahhbcehnbdkaaW.PrintWords Go.Proofs.YtcahhbcehnbdkaaW.PrintLast Go.Proofs.Ytcahhbcehnbdkaa.Eng

/-- Does x come ahead of y? -/
def ltS (s : S) (x y : Int) : Bool := decide (ofv s y - ofv s x < 0)
def insIn (lt : Int → Int → Bool) (a : Nat) : Nat → List Int → List Int
  | 0, d => d
  | j + 1, d => if a < j + 1 ∧ lt (rd d (j + 1 : Nat)) (rd d j) = true then insIn lt a j (swp d (j + 1 : Nat) j) else d
def insOut (lt : Int → Int → Bool) (a : Nat) : Nat → Nat → List Int → List Int
  | 0, _, d => d
  | f + 1, i, d => insOut lt a f (i + 1) (insIn lt a i d)
def insertS (lt : Int → Int → Bool) (d : List Int) (a b : Nat) : List Int := insOut lt a (b - (a + 1)) (a + 1) d
def swapN : Nat → Nat → Nat → List Int → List Int
  | 0, _, _, d => d
  | n + 1, a, b, d => swapN n (a + 1) (b + 1) (swp d a b)

structure Ctx (w : World) (B g : Nat) (s : S) (V : Lay) (cs bd n : Nat) : Prop where
  srch : Srch w B g s V
  cell : w.cell? ⟨cs, 0, none⟩ = some (.pointer (some ⟨g, 0, none⟩))
  csbd : cs ≠ bd
  apart : ¬ foot g V bd
  value : s.value.length = n
  small : Small s.value
structure Rw (w : World) (B bd cap : Nat) (d : List Int) : Prop where
  own : w.ownsRow B 3 1 (.slice (some ⟨bd, 0, none⟩) d.length cap) d.length (nums .i64 d)
abbrev FrB (bd : Nat) (w w' : World) : Prop := Fr (fun k => k = bd) w w'
theorem Fr.trans' {bd : Nat} {a b c : World} (h : FrB bd a b) (k : FrB bd b c) : FrB bd a c := Fr.trans h k fun _ h => .inl h

section
variable {w w' : World} {B g : Nat} {s : S} {V : Lay} {cs bd n cap : Nat} {d : List Int}
theorem Ctx.fr (h : Ctx w B g s V cs bd n) (hf : FrB bd w w') : Ctx w' B g s V cs bd n :=
  { h with srch := h.srch.fr hf fun k hk => by subst hk; exact h.apart, cell := hf.cell h.cell h.csbd }
theorem Ctx.drew (h : Ctx w B g s V cs bd n) : Ctx w.drew B g s V cs bd n := h.fr (Fr.refl _ _).drew
theorem Rw.len (h : Rw w B bd cap d) : d.length ≤ cap ∧ cap ≤ 9223372036854775807 := by
  rcases h.own.2 with ⟨h0, _⟩ | ⟨q, c, cur, hv, hb, hh, hc, hm, _, _⟩
  · cases h0
  · injection hv with _ _ h3
    subst h3
    exact ⟨hc, by simp only [maxLen] at hm; omega⟩
theorem Rw.cell (h : Rw w B bd cap d) (i : Int) (h0 : 0 ≤ i) (h1 : i < d.length) : w.cell? ⟨bd, i.toNat, none⟩ = some (.int .i64 (rd d i)) := by
  have := h.own.cells (g := bd) rfl i.toNat _ (nums_at .i64 d i h0 h1)
  rwa [add_plain] at this
theorem Rw.unfr (h : Rw w B bd cap d) (j : Nat) : w.frozen? ⟨bd, j, none⟩ = false := by
  rcases h.own.2 with ⟨h0, _⟩ | ⟨q, c, cur, hv, _, hh, _⟩
  · cases h0
  · injection hv with h1 _ _
    injection h1 with h1
    injection h1 with h1
    subst h1
    exact blk_frozen hh j
theorem Rw.drew (h : Rw w B bd cap d) : Rw w.drew B bd cap d := ⟨ownsRow_same h.own fun _ _ => rfl⟩
theorem Rw.set (h : Rw w B bd cap d) (i : Nat) (hi : i < d.length) (x : Int) : Rw (w.setCell ⟨bd, i, none⟩ (.int .i64 x)) B bd cap (d.set i x) ∧ FrB bd w (w.setCell ⟨bd, i, none⟩ (.int .i64 x)) := by
  refine ⟨⟨?_⟩, ⟨rfl, rfl, rfl, by rw [setCell_size]; exact Nat.le_refl _, fun k _ hk => Below.heap_setCell w _ _ k hk⟩⟩
  have := ownsRow_set h.own rfl i hi (.int .i64 x)
  rw [List.length_set]
  simpa [nums, List.map_set] using this
theorem Rw.swap (h : Rw w B bd cap d) {p q : Int} (hp0 : 0 ≤ p) (hp : p < d.length) (hq0 : 0 ≤ q) (hq : q < d.length) :
    Rw ((w.setCell ⟨bd, p.toNat, none⟩ (.int .i64 (rd d q))).setCell ⟨bd, q.toNat, none⟩ (.int .i64 (rd d p))) B bd cap (swp d p q) ∧ FrB bd w ((w.setCell ⟨bd, p.toNat, none⟩ (.int .i64 (rd d q))).setCell ⟨bd, q.toNat, none⟩ (.int .i64 (rd d p))) ∧
      Rw (w.setCell ⟨bd, p.toNat, none⟩ (.int .i64 (rd d q))) B bd cap (d.set p.toNat (rd d q)) := by
  obtain ⟨h1, f1⟩ := h.set p.toNat (by omega) (rd d q)
  obtain ⟨h2, f2⟩ := h1.set q.toNat (by rw [List.length_set]; omega) (rd d p)
  exact ⟨h2, f1.trans' f2, h1⟩

def cmpV (cs : Nat) : Value := .func (.func 35) #[] #[.pointer (some ⟨cs, 0, none⟩)]
theorem cmp_calls (h : Ctx w B g s V cs bd n) (x y : Int) (hx : Lit n x) (hy : Lit n y) :
    Calls Try.prog 35 #[.int .i64 x, .int .i64 y, .pointer (some ⟨cs, 0, none⟩)] w fun e w' => e = .returned (.int .i64 (ofv s y - ofv s x)) ∧ w.drew = w' := by
  have hx1 := ofv_small h.value h.small hx
  have hy1 := ofv_small h.value h.small hy
  refine calls_of_FC (N := 15) (vs := [.int .i64 x, .int .i64 y, .pointer (some ⟨cs, 0, none⟩)]) Try.func35 rfl Try.ntmps35 (Nat.le_of_ble_eq_true rfl) ?_
  refine FC.seq (FC.region ?_)
  refine sg_ rfl rfl rfl ?_
  refine FL.nilK ?_
  have hd := h.drew
  have hof : ∀ W, (Srch W B g s V ∧ W.cell? ⟨cs, 0, none⟩ = some (.pointer (some ⟨g, 0, none⟩))) → ∀ l, Lit n l → Calls Try.prog 33 #[.pointer (some ⟨g, 0, none⟩), .int .i64 l] W fun e w' => e = .returned (.int .i8 (ofv s l)) ∧ W = w' := fun W hW l hl =>
    of_calls hW.1 l (by rw [h.value]; exact hl.1) (by rw [h.value]; exact hl.2) h.small
  refine FC.seq (FC.draw (fun w => Srch w B g s V ∧ w.cell? ⟨cs, 0, none⟩ = some (.pointer (some ⟨g, 0, none⟩))) [] (bA 10 0) (by kernel_rfl) rfl rfl ⟨hd.srch, hd.cell⟩ ?_)
  refine FA.pur (i := 1) (bA 10 2) rfl (by kernel_rfl) rfl rfl (p_move rfl) ?_
  refine FA.pur (i := 5) (bA 10 34) rfl (by kernel_rfl) rfl rfl (p_move rfl) ?_
  refine FA.lod (i := 0) (bA 10 35) rfl (by kernel_rfl) rfl rfl ⟨hd.srch, hd.cell⟩ (fun _ hs => p_load rfl Try.underlying49 rfl hs.2) ?_
  refine FA.lod (i := 4) (bA 10 51) rfl (by kernel_rfl) rfl rfl ⟨hd.srch, hd.cell⟩ (fun _ hs => p_load rfl Try.underlying49 rfl hs.2) ?_
  refine FA.tell (i := 2) (bA 10 55) rfl (by kernel_rfl) rfl rfl ⟨hd.srch, hd.cell⟩ (fun _ _ => p_call Try.func33 rfl rfl rfl) (fun _ hs => hof _ hs y hy) ?_
  refine FA.pur (i := 3) (bA 10 63) rfl (by kernel_rfl) rfl rfl (p_conv rfl ⟨_, Try.underlying53⟩ Try.underlying3 (wr (by omega) (by omega))) ?_
  refine FA.tell (i := 6) (bA 10 127) rfl (by kernel_rfl) rfl rfl ⟨hd.srch, hd.cell⟩ (fun _ _ => p_call Try.func33 rfl rfl rfl) (fun _ hs => hof _ hs x hx) ?_
  refine FA.pur (i := 7) (bA 10 255) rfl (by kernel_rfl) rfl rfl (p_conv rfl ⟨_, Try.underlying53⟩ Try.underlying3 (wr (by omega) (by omega))) ?_
  refine FA.pur (i := 8) (bA 10 511) rfl (by kernel_rfl) rfl rfl (p_sub rfl rfl (wr (by omega) (by omega))) ?_
  refine FA.pur (i := 9) (bA 10 1023) rfl (by kernel_rfl) rfl rfl (p_assign rfl) ?_
  refine FA.doneK (by kernel_rfl) ?_
  refine FC.ret ?_
  repeat with_reducible first | refine thn_ret ?_ | refine blk_ret ?_ | refine nog_ret ?_
  exact ret1 Try.results35 rfl ⟨rfl, rfl⟩

theorem insertion_calls (h : Ctx w B g s V cs bd n) (hr : Rw w B bd cap d) (hl : ∀ l ∈ d, Lit n l) (hn : n < 1099511627776) (a b : Nat) (ha : a < 4611686018427387904) (hb : b ≤ d.length) :
    Calls Try.prog 57 #[.slice (some ⟨bd, 0, none⟩) d.length cap, .int .i64 a, .int .i64 b, cmpV cs] w fun e w' => e = .returned (.tuple #[]) ∧ Rw w' B bd cap (insertS (ltS s) d a b) ∧ FrB bd w w' := by
  have hcap := hr.len
  refine calls_of_FC (N := 53) (vs := [.slice (some ⟨bd, 0, none⟩) d.length cap, .int .i64 a, .int .i64 b, cmpV cs]) Try.func57 rfl Try.ntmps57 (Nat.le_of_ble_eq_true rfl) ?_
  refine FC.seq (FC.region ?_)
  refine mv_ rfl rfl rfl ?_
  refine FL.pur rfl rfl (p_add rfl rfl ((wr (by omega) (by omega)).trans (show (a : Int) + 1 = ((a + 1 : Nat) : Int) by omega))) ?_
  refine sg_ rfl rfl rfl ?_
  refine FL.nilK ?_
  refine FC.block ?_
  refine FC.loop (σ := Nat × List Int) (fun x => [(0, .slice (some ⟨bd, 0, none⟩) d.length cap), (1, .int .i64 a), (2, .int .i64 b), (3, cmpV cs), (8, .int .i64 x.1)]) (fun x w2 => Ctx w2 B g s V cs bd n ∧ Rw w2 B bd cap x.2 ∧ FrB bd w w2 ∧ x.2.length = d.length ∧ (∀ l ∈ x.2, Lit n l) ∧ a < x.1 ∧ insOut (ltS s) a (b - x.1) x.1 x.2 = insertS (ltS s) d a b)
    (fun x => b - x.1) (a + 1, d) ⟨h, hr, Fr.refl _ _, rfl, hl, Nat.lt_succ_self a, rfl⟩ ⟨rfl, rfl, rfl, rfl, rfl, trivial⟩ ?_
  rintro ⟨i, d1⟩ w1 ⟨h1, r1, f1, hl1, hL1, hai, hres⟩
  simp only at h1 r1 f1 hl1 hL1 hai hres ⊢
  refine FC.seq ?_
  refine FC.seq (FC.region ?_)
  refine mv_ rfl rfl rfl ?_
  refine mv_ rfl rfl rfl ?_
  refine FL.pur rfl rfl (p_lss rfl rfl rfl) ?_
  refine FL.nilK ?_
  refine FC.cond (decide ((i : Int) < (b : Int))) rfl (fun hc => FC.skip (thn_normal ?_)) (fun hc => FC.exit ?_)
  rotate_left
  · have hge : ¬ (i : Int) < (b : Int) := of_decide_eq_false hc
    have e : b - i = 0 := by omega
    rw [e] at hres
    refine thn_exit (thn_exit (blk_exit (end0 Try.results57 ⟨rfl, ?_, f1⟩)))
    rw [← hres]; exact r1
  have hlt : (i : Int) < (b : Int) := of_decide_eq_true hc
  obtain ⟨f, hf⟩ : ∃ f, b - i = f + 1 := ⟨b - i - 1, by omega⟩
  rw [hf] at hres
  refine FC.cut (σ := List Int) (fun _ => [(0, .slice (some ⟨bd, 0, none⟩) d.length cap), (1, .int .i64 a), (2, .int .i64 b), (3, cmpV cs), (8, .int .i64 i)]) (fun x w2 => Ctx w2 B g s V cs bd n ∧ Rw w2 B bd cap x ∧ FrB bd w w2 ∧ x.length = d.length ∧ (∀ l ∈ x, Lit n l) ∧ x = insIn (ltS s) a i d1) ?_ ?_
  rotate_left
  · rintro d2 w2 ⟨h2, r2, f2, hl2, hL2, rfl⟩
    refine FC.region ?_
    refine mv_ rfl rfl rfl ?_
    refine FL.pur rfl rfl (p_add rfl rfl ((wr (by omega) (by omega)).trans (show (i : Int) + 1 = ((i + 1 : Nat) : Int) by omega))) ?_
    refine sg_ rfl rfl rfl ?_
    refine FL.nil ?_
    refine ⟨(i + 1, insIn (ltS s) a i d1), ⟨rfl, rfl, rfl, rfl, rfl, trivial⟩, ⟨h2, r2, f2, hl2, hL2, Nat.lt_succ_of_lt hai, ?_⟩, by show b - (i + 1) < b - i; omega⟩
    rw [← hres, show b - (i + 1) = f by omega]
    rfl
  refine FC.block ?_
  refine FC.seq (FC.region ?_)
  refine mv_ rfl rfl rfl ?_
  refine sg_ rfl rfl rfl ?_
  refine FL.nilK ?_
  refine FC.block ?_
  refine FC.loop (σ := Nat × List Int) (fun x => [(0, .slice (some ⟨bd, 0, none⟩) d.length cap), (1, .int .i64 a), (2, .int .i64 b), (3, cmpV cs), (8, .int .i64 i), (9, .int .i64 x.1)]) (fun x w2 => Ctx w2 B g s V cs bd n ∧ Rw w2 B bd cap x.2 ∧ FrB bd w w2 ∧ x.2.length = d.length ∧ (∀ l ∈ x.2, Lit n l) ∧ a ≤ x.1 ∧ x.1 ≤ i ∧ insIn (ltS s) a x.1 x.2 = insIn (ltS s) a i d1)
    (fun x => x.1) (i, d1) ⟨h1, r1, f1, hl1, hL1, by omega, by omega, rfl⟩ ⟨rfl, rfl, rfl, rfl, rfl, rfl, trivial⟩ ?_
  rintro ⟨j, d2⟩ w2 ⟨h2, r2, f2, hl2, hL2, haj, hji, hins⟩
  simp only at h2 r2 f2 hl2 hL2 haj hji hins ⊢
  refine FC.seq ?_
  by_cases hja : (a : Int) < (j : Int)
  · obtain ⟨j', rfl⟩ : ∃ j', j = j' + 1 := ⟨j - 1, by omega⟩
    have r3 := r2.drew
    have h3 := h2.drew
    have hc1 := r3.cell ((j' + 1 : Nat) : Int) (by omega) (by omega)
    have hc2 := r3.cell (j' : Int) (by omega) (by omega)
    have hj1 : ((j' + 1 : Nat) : Int) - 1 = (j' : Int) := by omega
    have hx := hL2 _ (rd_mem d2 ((j' + 1 : Nat) : Int) (by omega) (by omega))
    have hy := hL2 _ (rd_mem d2 (j' : Int) (by omega) (by omega))
    have hS := And.intro hc1 hc2
    refine FC.seq (FC.draw (fun w => w.cell? ⟨bd, ((j' + 1 : Nat) : Int).toNat, none⟩ = some (.int .i64 (rd d2 ((j' + 1 : Nat) : Int))) ∧ w.cell? ⟨bd, (j' : Int).toNat, none⟩ = some (.int .i64 (rd d2 (j' : Int)))) [14] (bA 17 0) (by kernel_rfl) rfl rfl hS ?_)
    refine FA.pur (i := 0) (bA 17 1) rfl (by kernel_rfl) rfl rfl (p_move rfl) ?_
    refine FA.pur (i := 1) (bA 17 3) rfl (by kernel_rfl) rfl rfl (p_move rfl) ?_
    refine FA.pur (i := 2) (bA 17 7) rfl (by kernel_rfl) rfl rfl (p_gtr rfl rfl (decide_eq_true hja)) ?_
    refine FA.pur (i := 3) (bA 17 15) rfl (by kernel_rfl) rfl rfl (p_move rfl) ?_
    refine FA.pur (i := 4) (bA 17 31) rfl (by kernel_rfl) rfl rfl (p_move rfl) ?_
    refine FA.pur (i := 5) (bA 17 63) rfl (by kernel_rfl) rfl rfl (p_move rfl) ?_
    refine FA.pur (i := 6) (bA 17 127) rfl (by kernel_rfl) rfl rfl (p_move rfl) ?_
    refine FA.pur (i := 7) (bA 17 255) rfl (by kernel_rfl) rfl rfl (idx41 rfl rfl (by omega) (by omega)) ?_
    refine FA.pur (i := 9) (bA 17 767) rfl (by kernel_rfl) rfl rfl (p_move rfl) ?_
    refine FA.pur (i := 10) (bA 17 1791) rfl (by kernel_rfl) rfl rfl (p_move rfl) ?_
    refine FA.pur (i := 11) (bA 17 3839) rfl (by kernel_rfl) rfl rfl (p_sub rfl rfl ((wr (by omega) (by omega)).trans hj1)) ?_
    refine FA.pur (i := 12) (bA 17 7935) rfl (by kernel_rfl) rfl rfl (idx41 rfl rfl (by omega) (by omega)) ?_
    refine FA.lod (i := 8) (bA 17 8191) rfl (by kernel_rfl) rfl rfl hS (fun _ hs => p_load rfl Try.underlying3 rfl hs.1) ?_
    refine FA.lod (i := 13) (bA 17 16383) rfl (by kernel_rfl) rfl rfl hS (fun _ hs => p_load rfl Try.underlying3 rfl hs.2) ?_
    refine FA.lastC (i := 14) (bA 17 32767) rfl (by kernel_rfl) (by decide) rfl rfl (p_callv (cap := [.pointer (some ⟨cs, 0, none⟩)]) rfl Try.func35 rfl rfl rfl) (cmp_calls h3 _ _ hx hy) ?_
    rintro e_ w_ ⟨rfl, rfl⟩
    refine ⟨_, rfl, ?_⟩
    refine FA.pur (i := 15) (bA 17 65535) rfl (by kernel_rfl) rfl rfl (p_lss rfl rfl rfl) ?_
    refine FA.pur (i := 16) (bA 17 131071) rfl (by kernel_rfl) rfl rfl (p_pick_t rfl rfl) ?_
    refine FA.doneK (by kernel_rfl) ?_
    have h4 := h3.drew
    have r4 := r3.drew
    refine FC.cond (decide (ofv s (rd d2 (j' : Int)) - ofv s (rd d2 ((j' + 1 : Nat) : Int)) < 0)) rfl (fun hc => FC.skip (thn_normal ?_)) (fun hc => FC.exit ?_)
    · have hlt2 : ltS s (rd d2 ((j' + 1 : Nat) : Int)) (rd d2 (j' : Int)) = true := hc
      refine FC.seq ?_
      refine FC.block ?_
      have r5 := r4.drew
      have h5 := h4.drew
      obtain ⟨r6, f6, r6a⟩ := r5.swap (p := ((j' + 1 : Nat) : Int)) (q := (j' : Int)) (by omega) (by omega) (by omega) (by omega)
      have hc1' := r5.cell ((j' + 1 : Nat) : Int) (by omega) (by omega)
      have hc2' := r5.cell (j' : Int) (by omega) (by omega)
      have hca := r6a.cell (j' : Int) (by omega) (by rw [List.length_set]; omega)
      have hS2 := And.intro hc1' hc2'
      refine (FC.draw (fun w => w.cell? ⟨bd, ((j' + 1 : Nat) : Int).toNat, none⟩ = some (.int .i64 (rd d2 ((j' + 1 : Nat) : Int))) ∧ w.cell? ⟨bd, (j' : Int).toNat, none⟩ = some (.int .i64 (rd d2 (j' : Int)))) [15, 17] (bA 18 0) (by kernel_rfl) rfl rfl hS2 ?_)
      refine FA.pur (i := 0) (bA 18 1) rfl (by kernel_rfl) rfl rfl (p_move rfl) ?_
      refine FA.pur (i := 1) (bA 18 3) rfl (by kernel_rfl) rfl rfl (p_move rfl) ?_
      refine FA.pur (i := 2) (bA 18 7) rfl (by kernel_rfl) rfl rfl (p_move rfl) ?_
      refine FA.pur (i := 3) (bA 18 15) rfl (by kernel_rfl) rfl rfl (p_move rfl) ?_
      refine FA.pur (i := 4) (bA 18 31) rfl (by kernel_rfl) rfl rfl (p_sub rfl rfl ((wr (by omega) (by omega)).trans hj1)) ?_
      refine FA.pur (i := 5) (bA 18 63) rfl (by kernel_rfl) rfl rfl (p_move rfl) ?_
      refine FA.pur (i := 6) (bA 18 127) rfl (by kernel_rfl) rfl rfl (p_move rfl) ?_
      refine FA.pur (i := 7) (bA 18 255) rfl (by kernel_rfl) rfl rfl (p_sub rfl rfl ((wr (by omega) (by omega)).trans hj1)) ?_
      refine FA.pur (i := 8) (bA 18 511) rfl (by kernel_rfl) rfl rfl (idx41 rfl rfl (by omega) (by omega)) ?_
      refine FA.pur (i := 10) (bA 18 1535) rfl (by kernel_rfl) rfl rfl (p_move rfl) ?_
      refine FA.pur (i := 11) (bA 18 3583) rfl (by kernel_rfl) rfl rfl (p_move rfl) ?_
      refine FA.pur (i := 12) (bA 18 7679) rfl (by kernel_rfl) rfl rfl (idx41 rfl rfl (by omega) (by omega)) ?_
      refine FA.lod (i := 9) (bA 18 8191) rfl (by kernel_rfl) rfl rfl hS2 (fun _ hs => p_load rfl Try.underlying3 rfl hs.2) ?_
      refine FA.lod (i := 13) (bA 18 16383) rfl (by kernel_rfl) rfl rfl hS2 (fun _ hs => p_load rfl Try.underlying3 rfl hs.1) ?_
      refine FA.pur (i := 14) (bA 18 32767) rfl (by kernel_rfl) rfl rfl (idx41 rfl rfl (by omega) (by omega)) ?_
      refine FA.lastS (i := 15) _ (bA 18 65535) rfl (by kernel_rfl) (by decide) rfl (st3 rfl rfl rfl hc1' (r5.unfr _)) ?_
      refine FA.pur (i := 16) (bA 18 131071) rfl (by kernel_rfl) rfl rfl (idx41 rfl rfl (by omega) (by omega)) ?_
      refine FA.lastS (i := 17) _ (bA 18 262143) rfl (by kernel_rfl) (by decide) rfl (st3 rfl rfl rfl hca (r6a.unfr _)) ?_
      refine FA.done (by kernel_rfl) ?_
      refine blk_normal (thn_normal ?_)
      refine FC.region ?_
      refine mv_ rfl rfl rfl ?_
      refine FL.pur rfl rfl (p_sub rfl rfl ((wr (by omega) (by omega)).trans hj1)) ?_
      refine sg_ rfl rfl rfl ?_
      refine FL.nil ?_
      refine ⟨(j', swp d2 ((j' + 1 : Nat) : Int) (j' : Int)), ⟨rfl, rfl, rfl, rfl, rfl, rfl, trivial⟩, ⟨h5.fr f6, r6, ((f2.drew.drew).drew).trans' f6, by rw [swp_length]; exact hl2, fun l hl => hL2 l (swp_mem (by omega) (by omega) (by omega) (by omega) hl), by omega, by omega, ?_⟩, by show j' < j' + 1; omega⟩
      rw [← hins]
      conv => rhs; unfold insIn
      rw [if_pos ⟨by omega, hlt2⟩]
    · have hlt2 : ¬ ltS s (rd d2 ((j' + 1 : Nat) : Int)) (rd d2 (j' : Int)) = true := by intro e; unfold ltS at e; rw [e] at hc; cases hc
      refine thn_exit (thn_exit (blk_exit (blk_normal ⟨d2, ⟨rfl, rfl, rfl, rfl, rfl, trivial⟩, h4, r4, f2.drew.drew, hl2, hL2, ?_⟩)))
      rw [← hins]
      conv => rhs; unfold insIn
      rw [if_neg (fun e => hlt2 e.2)]
  · obtain rfl : j = a := by omega
    refine FC.seq (FC.draw (fun _ => True) [] (bA 17 0) (by kernel_rfl) rfl rfl trivial ?_)
    refine FA.pur (i := 0) (bA 17 1) rfl (by kernel_rfl) rfl rfl (p_move rfl) ?_
    refine FA.pur (i := 1) (bA 17 3) rfl (by kernel_rfl) rfl rfl (p_move rfl) ?_
    refine FA.pur (i := 2) (bA 17 7) rfl (by kernel_rfl) rfl rfl (p_gtr rfl rfl (decide_eq_false hja)) ?_
    refine FA.pur (i := 3) (bA 17 15) rfl (by kernel_rfl) rfl rfl (p_move rfl) ?_
    refine FA.off (i := 4) (bA 17 31) rfl (by kernel_rfl) rfl rfl ?_
    refine FA.off (i := 5) (bA 17 63) rfl (by kernel_rfl) rfl rfl ?_
    refine FA.off (i := 6) (bA 17 127) rfl (by kernel_rfl) rfl rfl ?_
    refine FA.off (i := 7) (bA 17 255) rfl (by kernel_rfl) rfl rfl ?_
    refine FA.off (i := 8) (bA 17 511) rfl (by kernel_rfl) rfl rfl ?_
    refine FA.off (i := 9) (bA 17 1023) rfl (by kernel_rfl) rfl rfl ?_
    refine FA.off (i := 10) (bA 17 2047) rfl (by kernel_rfl) rfl rfl ?_
    refine FA.off (i := 11) (bA 17 4095) rfl (by kernel_rfl) rfl rfl ?_
    refine FA.off (i := 12) (bA 17 8191) rfl (by kernel_rfl) rfl rfl ?_
    refine FA.off (i := 13) (bA 17 16383) rfl (by kernel_rfl) rfl rfl ?_
    refine FA.off (i := 14) (bA 17 32767) rfl (by kernel_rfl) rfl rfl ?_
    refine FA.off (i := 15) (bA 17 65535) rfl (by kernel_rfl) rfl rfl ?_
    refine FA.pur (i := 16) (bA 17 131071) rfl (by kernel_rfl) rfl rfl (p_pick_f rfl rfl) ?_
    refine FA.doneK (by kernel_rfl) ?_
    refine FC.cond_f rfl (FC.exit ?_)
    refine thn_exit (thn_exit (blk_exit (blk_normal ⟨d2, ⟨rfl, rfl, rfl, rfl, rfl, trivial⟩, h2.drew, r2.drew, f2.drew, hl2, hL2, ?_⟩)))
    rw [← hins]
    cases j with
    | zero => rfl
    | succ j => unfold insIn; rw [if_neg (by omega)]
end
end Go.Proofs.Ytcahhbcehnbdkaa.Sv

/- Sorted rows: what swaps, turns and merges leave, in plain Lean. -/
namespace Go.Proofs.Ytcahhbcehnbdkaa.Sv
open Go.RowKit Go.Proofs.YtcahhbcehnbdkaaW.PrintWords Go.Proofs.YtcahhbcehnbdkaaW.PrintLast

def g (d : List Int) (i : Nat) : Int := d.getD i 0
theorem rd_nat (d : List Int) (i : Nat) : rd d (i : Int) = g d i := rfl
structure Mix (a b : Nat) (d e : List Int) : Prop where
  len : e.length = d.length
  out : ∀ i, (i < a ∨ b ≤ i) → g e i = g d i
  perm : e.Perm d
  keep : ∀ i, a ≤ i → i < b → ∃ j, a ≤ j ∧ j < b ∧ g e i = g d j
theorem Mix.refl (a b : Nat) (d : List Int) : Mix a b d d := ⟨rfl, fun _ _ => rfl, .refl _, fun i h1 h2 => ⟨i, h1, h2, rfl⟩⟩
theorem Mix.trans {a b : Nat} {d e f : List Int} (h : Mix a b d e) (k : Mix a b e f) : Mix a b d f where
  len := k.len.trans h.len
  out i hi := (k.out i hi).trans (h.out i hi)
  perm := k.perm.trans h.perm
  keep i h1 h2 := by
    obtain ⟨j, j1, j2, e1⟩ := k.keep i h1 h2
    obtain ⟨l, l1, l2, e2⟩ := h.keep j j1 j2
    exact ⟨l, l1, l2, e1.trans e2⟩
theorem Mix.wide {a b a' b' : Nat} {d e : List Int} (h : Mix a b d e) (ha : a' ≤ a) (hb : b ≤ b') : Mix a' b' d e where
  len := h.len
  out i hi := h.out i (by omega)
  perm := h.perm
  keep i h1 h2 := by
    by_cases hi : a ≤ i ∧ i < b
    · obtain ⟨j, j1, j2, e1⟩ := h.keep i hi.1 hi.2
      exact ⟨j, by omega, by omega, e1⟩
    · exact ⟨i, h1, h2, h.out i (by omega)⟩
theorem g_swp (d : List Int) (p q i : Nat) (hp : p < d.length) (hq : q < d.length) : g (swp d p q) i = if i = q then g d p else if i = p then g d q else g d i := by
  unfold swp g
  simp only [Int.toNat_natCast, rd_nat, List.getD_eq_getElem?_getD, List.getElem?_set, List.length_set]
  by_cases h1 : i = q
  · subst h1; simp [hq, g]
  · by_cases h2 : i = p
    · subst h2; simp [h1, hp, Ne.symm h1, g]
    · simp [h1, h2, Ne.symm h1, Ne.symm h2]
theorem Mix.swap {a b : Nat} (d : List Int) (p q : Nat) (hp : a ≤ p) (hp' : p < b) (hq : a ≤ q) (hq' : q < b) (hb : b ≤ d.length) : Mix a b d (swp d p q) where
  len := swp_length ..
  out i hi := by rw [g_swp d p q i (by omega) (by omega), if_neg (by omega), if_neg (by omega)]
  perm := by
    have h1 : p < d.length := by omega
    have h2 : q < d.length := by omega
    have := @List.set_set_perm _ d p q h1 h2
    simpa [swp, rd_nat, g, List.getD_eq_getElem?_getD, h1, h2] using this
  keep i h1 h2 := by
    rw [g_swp d p q i (by omega) (by omega)]
    by_cases h3 : i = q
    · exact ⟨p, hp, hp', by rw [if_pos h3]⟩
    · by_cases h4 : i = p
      · exact ⟨q, hq, hq', by rw [if_neg h3, if_pos h4]⟩
      · exact ⟨i, h1, h2, by rw [if_neg h3, if_neg h4]⟩

/-- Sorted, the greatest first. -/
def Sd (k : Int → Int) (d : List Int) (a b : Nat) : Prop := ∀ i j, a ≤ i → i < j → j < b → k (g d j) ≤ k (g d i)
theorem Sd.cut {k : Int → Int} {d : List Int} {a b a' b' : Nat} (h : Sd k d a b) (ha : a ≤ a') (hb : b' ≤ b) : Sd k d a' b' := fun i j h1 h2 h3 => h i j (by omega) h2 (by omega)
theorem Sd.le {k : Int → Int} {d : List Int} {a b i j : Nat} (h : Sd k d a b) (h1 : a ≤ i) (h2 : i ≤ j) (h3 : j < b) : k (g d j) ≤ k (g d i) := by
  rcases Nat.lt_or_eq_of_le h2 with h4 | h4
  · exact h i j h1 h4 h3
  · rw [h4]; exact Int.le_refl _
theorem Sd.out {k : Int → Int} {d e : List Int} {a b a' b' : Nat} (h : Sd k d a b) (m : Mix a' b' d e) (hab : b ≤ a' ∨ b' ≤ a) : Sd k e a b := fun i j h1 h2 h3 => by
  rw [m.out i (by omega), m.out j (by omega)]; exact h i j h1 h2 h3
theorem Sd.join {k : Int → Int} {d : List Int} {a m b : Nat} (h1 : Sd k d a m) (h2 : Sd k d m b) (h : ∀ i j, a ≤ i → i < m → m ≤ j → j < b → k (g d j) ≤ k (g d i)) : Sd k d a b := fun i j ha hij hb => by
  by_cases hj : j < m
  · exact h1 i j ha hij hj
  · by_cases hi : m ≤ i
    · exact h2 i j hi hij hb
    · exact h i j ha (by omega) (by omega) hb

theorem insIn_spec (k : Int → Int) (lt : Int → Int → Bool) (hlt : ∀ x y, lt x y = true ↔ k y < k x) (a : Nat) : ∀ (j : Nat) (d : List Int), a ≤ j → j < d.length → Sd k d a j → Mix a (j + 1) d (insIn lt a j d) ∧ Sd k (insIn lt a j d) a (j + 1)
  | 0, d, ha, hj, hs => ⟨.refl _ _ _, fun i l h1 h2 h3 => absurd h3 (by omega)⟩
  | j + 1, d, ha, hj, hs => by
    unfold insIn
    split
    · rename_i h
      have h2 := (hlt _ _).1 h.2
      have e0 : g d (j + 1) = rd d ((j + 1 : Nat) : Int) := rfl
      have e1 : g d j = rd d (j : Int) := rfl
      rw [← e0, ← e1] at h2
      have m1 : Mix a (j + 1 + 1) d (swp d ((j + 1 : Nat) : Int) (j : Int)) := .swap d (j + 1) j (by omega) (by omega) (by omega) (by omega) (by omega)
      have gs := fun i => g_swp d (j + 1) j i (by omega) (by omega)
      have s1 : Sd k (swp d ((j + 1 : Nat) : Int) (j : Int)) a j := fun i l h1 h2 h3 => by
        rw [gs, gs, if_neg (by omega), if_neg (by omega), if_neg (by omega), if_neg (by omega)]
        exact hs i l h1 h2 (by omega)
      obtain ⟨m2, s2⟩ := insIn_spec k lt hlt a j _ (by omega) (by rw [swp_length]; omega) s1
      refine ⟨m1.trans (m2.wide (Nat.le_refl _) (by omega)), Sd.join (m := j + 1) s2 (fun i l h1 h2 h3 => absurd h3 (by omega)) fun i l h3 h4 h5 h6 => ?_⟩
      obtain rfl : l = j + 1 := by omega
      rw [m2.out (j + 1) (by omega), gs, if_neg (by omega), if_pos rfl]
      obtain ⟨r, r1, r2, e⟩ := m2.keep i h3 h4
      rw [e, gs]
      split
      · exact Int.le_of_lt h2
      · rw [if_neg (by omega)]
        exact hs.le r1 (by omega) (by omega)
    · rename_i h
      refine ⟨.refl _ _ _, Sd.join (m := j + 1) hs (fun i l h1 h2 h3 => absurd h3 (by omega)) fun i l h3 h4 h5 h6 => ?_⟩
      obtain rfl : l = j + 1 := by omega
      have : k (g d (j + 1)) ≤ k (g d j) := by
        exact Int.not_lt.1 fun e => h ⟨by omega, (hlt _ _).2 e⟩
      exact Int.le_trans this (hs.le h3 (by omega) (by omega))
theorem insOut_spec (k : Int → Int) (lt : Int → Int → Bool) (hlt : ∀ x y, lt x y = true ↔ k y < k x) (a : Nat) : ∀ (f i : Nat) (d : List Int), a ≤ i → i + f ≤ d.length → Sd k d a i → Mix a (i + f) d (insOut lt a f i d) ∧ Sd k (insOut lt a f i d) a (i + f)
  | 0, i, d, _, _, hs => ⟨.refl _ _ _, hs⟩
  | f + 1, i, d, ha, hi, hs => by
    obtain ⟨m1, s1⟩ := insIn_spec k lt hlt a i d ha (by omega) hs
    obtain ⟨m2, s2⟩ := insOut_spec k lt hlt a f (i + 1) _ (by omega) (by rw [m1.len]; omega) s1
    unfold insOut
    rw [show i + (f + 1) = i + 1 + f by omega]
    exact ⟨(m1.wide (Nat.le_refl _) (by omega)).trans m2, s2⟩
theorem insertS_spec (k : Int → Int) (lt : Int → Int → Bool) (hlt : ∀ x y, lt x y = true ↔ k y < k x) (d : List Int) (a b : Nat) (hb : b ≤ d.length) : Mix a b d (insertS lt d a b) ∧ Sd k (insertS lt d a b) a b := by
  unfold insertS
  by_cases h : a + 1 ≤ b
  · have := insOut_spec k lt hlt a (b - (a + 1)) (a + 1) d (by omega) (by omega) fun i j h1 h2 h3 => absurd h3 (by omega)
    rwa [show a + 1 + (b - (a + 1)) = b by omega] at this
  · rw [show b - (a + 1) = 0 by omega]
    exact ⟨.refl _ _ _, fun i j h1 h2 h3 => absurd h3 (by omega)⟩

theorem swapN_g : ∀ (n a b : Nat) (d : List Int), a + n ≤ b → b + n ≤ d.length → (swapN n a b d).length = d.length ∧ Mix a (b + n) d (swapN n a b d) ∧
    ∀ i, g (swapN n a b d) i = if a ≤ i ∧ i < a + n then g d (b + (i - a)) else if b ≤ i ∧ i < b + n then g d (a + (i - b)) else g d i
  | 0, a, b, d, _, _ => ⟨rfl, .refl _ _ _, fun i => by rw [if_neg (by omega), if_neg (by omega)]; rfl⟩
  | n + 1, a, b, d, h1, h2 => by
    obtain ⟨h3, h4, h5⟩ := swapN_g n (a + 1) (b + 1) (swp d a b) (by omega) (by rw [swp_length]; omega)
    unfold swapN
    refine ⟨by rw [h3, swp_length], (Mix.swap d a b (Nat.le_refl _) (by omega) (by omega) (by omega) (by omega)).trans (h4.wide (by omega) (by omega)), fun i => ?_⟩
    rw [h5]
    simp only [g_swp d a b _ (show a < d.length by omega) (show b < d.length by omega)]
    by_cases e1 : i = a
    · subst e1
      rw [if_neg (by omega), if_neg (by omega), if_neg (by omega), if_pos rfl, if_pos (by omega)]; congr 1; omega
    by_cases e2 : i = b
    · subst e2
      rw [if_neg (by omega), if_neg (by omega), if_pos rfl, if_neg (by omega), if_pos (by omega)]; congr 1; omega
    by_cases e3 : a + 1 ≤ i ∧ i < a + 1 + n
    · rw [if_pos e3, if_neg (by omega), if_neg (by omega), if_pos (by omega)]; congr 1; omega
    rw [if_neg e3]
    by_cases e4 : b + 1 ≤ i ∧ i < b + 1 + n
    · rw [if_pos e4, if_neg (by omega), if_neg (by omega), if_neg (by omega), if_pos (by omega)]; congr 1; omega
    rw [if_neg e4, if_neg e2, if_neg e1, if_neg (by omega), if_neg (by omega)]

/-- e is d with the ranges [a, m) and [m, b) in the other order. -/
structure Rot (a m b : Nat) (d e : List Int) : Prop where
  mix : Mix a b d e
  place : ∀ i, a ≤ i → i < b → g e i = if i < a + (b - m) then g d (m + (i - a)) else g d (a + (i - (a + (b - m))))

theorem Rot.last (m i : Nat) (d : List Int) (hi : i ≤ m) (hb : m + i ≤ d.length) : Rot (m - i) m (m + i) d (swapN i (m - i) m d) := by
  obtain ⟨_, h4, h5⟩ := swapN_g i (m - i) m d (by omega) hb
  refine ⟨h4, fun l h1 h2 => ?_⟩
  rw [h5]
  by_cases h : l < m
  · rw [if_pos (by omega), if_pos (by omega)]
  · rw [if_neg (by omega), if_pos (by omega), if_neg (by omega)]; congr 1; omega
theorem Rot.left {m i j : Nat} {d e : List Int} (hi : i ≤ m) (hij : j < i) (hb : m + j ≤ d.length) (h : Rot (m - (i - j)) m (m + j) (swapN j (m - i) m d) e) : Rot (m - i) m (m + j) d e := by
  obtain ⟨_, h4, h5⟩ := swapN_g j (m - i) m d (by omega) hb
  refine ⟨h4.trans (h.mix.wide (by omega) (Nat.le_refl _)), fun l h1 h2 => ?_⟩
  by_cases hl : l < m - (i - j)
  · rw [h.mix.out l (by omega), h5, if_pos (by omega), if_pos (by omega)]
  · rw [h.place l (by omega) h2, h5, h5]
    by_cases h6 : l < m - (i - j) + (m + j - m)
    · rw [if_pos h6, if_neg (by omega), if_pos (by omega), if_neg (by omega)]; congr 1; omega
    · rw [if_neg h6, if_neg (by omega), if_neg (by omega), if_neg (by omega)]; congr 1; omega
theorem Rot.right {m i j : Nat} {d e : List Int} (hi : i ≤ m) (hij : i < j) (hb : m + j ≤ d.length) (h : Rot (m - i) m (m + (j - i)) (swapN i (m - i) (m + j - i) d) e) : Rot (m - i) m (m + j) d e := by
  obtain ⟨_, h4, h5⟩ := swapN_g i (m - i) (m + j - i) d (by omega) (by omega)
  have h4' := h4.wide (a' := m - i) (b' := m + j) (Nat.le_refl _) (by omega)
  refine ⟨h4'.trans (h.mix.wide (Nat.le_refl _) (by omega)), fun l h1 h2 => ?_⟩
  by_cases hl : m + (j - i) ≤ l
  · rw [h.mix.out l (by omega), h5, if_neg (by omega), if_pos (by omega), if_neg (by omega)]; congr 1; omega
  · rw [h.place l (by omega) (by omega), h5, h5]
    by_cases h6 : l < m - i + (m + (j - i) - m)
    · rw [if_pos h6, if_neg (by omega), if_neg (by omega), if_pos (by omega)]
    · rw [if_neg h6, if_pos (by omega), if_pos (by omega)]; congr 1; omega
end Go.Proofs.Ytcahhbcehnbdkaa.Sv

/- Walks of the stable sort: ranges are swapped and turned. -/
namespace Go.Proofs.Ytcahhbcehnbdkaa.Sv
open Go.RowKit Go.Proofs.YtcahhbcehnbdkaaW.PrintWords Go.Proofs.YtcahhbcehnbdkaaW.PrintLast Go.Proofs.Ytcahhbcehnbdkaa.Eng

section
variable {w w' : World} {B bd cap : Nat} {d : List Int}
theorem swapRange_calls0 (hr : Rw w B bd cap d) (c : Value) (a b n : Nat) (hab : a + n ≤ b) (hb : b + n ≤ d.length) :
    Calls Try.prog 60 #[.slice (some ⟨bd, 0, none⟩) d.length cap, .int .i64 a, .int .i64 b, .int .i64 n, c] w fun e w' => e = .returned (.tuple #[]) ∧ Rw w' B bd cap (swapN n a b d) ∧ FrB bd w w' := by
  have hcap := hr.len
  refine calls_of_FC (N := 38) (vs := [.slice (some ⟨bd, 0, none⟩) d.length cap, .int .i64 a, .int .i64 b, .int .i64 n, c]) Try.func60 rfl Try.ntmps60 (Nat.le_of_ble_eq_true rfl) ?_
  refine FC.seq (FC.region ?_)
  refine sg_ rfl rfl rfl ?_
  refine FL.nilK ?_
  refine FC.block ?_
  refine FC.loop (σ := Nat × List Int) (fun x => [(0, .slice (some ⟨bd, 0, none⟩) d.length cap), (1, .int .i64 a), (2, .int .i64 b), (3, .int .i64 n), (4, c), (10, .int .i64 x.1)]) (fun x w2 => Rw w2 B bd cap x.2 ∧ FrB bd w w2 ∧ x.2.length = d.length ∧ x.1 ≤ n ∧ swapN (n - x.1) (a + x.1) (b + x.1) x.2 = swapN n a b d)
    (fun x => n - x.1) (0, d) ⟨hr, Fr.refl _ _, rfl, Nat.zero_le _, rfl⟩ ⟨rfl, rfl, rfl, rfl, rfl, rfl, trivial⟩ ?_
  rintro ⟨i, d1⟩ w1 ⟨r1, f1, hl1, hin, hres⟩
  simp only at r1 f1 hl1 hin hres ⊢
  refine FC.seq ?_
  refine FC.seq (FC.region ?_)
  refine mv_ rfl rfl rfl ?_
  refine mv_ rfl rfl rfl ?_
  refine FL.pur rfl rfl (p_lss rfl rfl rfl) ?_
  refine FL.nilK ?_
  refine FC.cond (decide ((i : Int) < (n : Int))) rfl (fun hc => FC.skip (thn_normal ?_)) (fun hc => FC.exit ?_)
  rotate_left
  · have hge : ¬ (i : Int) < (n : Int) := of_decide_eq_false hc
    have e : n - i = 0 := by omega
    rw [e] at hres
    refine thn_exit (thn_exit (blk_exit (end0 Try.results60 ⟨rfl, ?_, f1⟩)))
    rw [← hres]; exact r1
  have hlt : (i : Int) < (n : Int) := of_decide_eq_true hc
  obtain ⟨f, hf⟩ : ∃ f, n - i = f + 1 := ⟨n - i - 1, by omega⟩
  rw [hf] at hres
  have ea : (a : Int) + (i : Int) = ((a + i : Nat) : Int) := rfl
  have eb : (b : Int) + (i : Int) = ((b + i : Nat) : Int) := rfl
  refine FC.seq ?_
  refine FC.block ?_
  have r5 := r1.drew
  obtain ⟨r6, f6, r6a⟩ := r5.swap (p := ((a + i : Nat) : Int)) (q := ((b + i : Nat) : Int)) (by omega) (by omega) (by omega) (by omega)
  have hc1 := r5.cell ((a + i : Nat) : Int) (by omega) (by omega)
  have hc2 := r5.cell ((b + i : Nat) : Int) (by omega) (by omega)
  have hca := r6a.cell ((b + i : Nat) : Int) (by omega) (by rw [List.length_set]; omega)
  have hS2 := And.intro hc1 hc2
  refine (FC.draw (fun w => w.cell? ⟨bd, ((a + i : Nat) : Int).toNat, none⟩ = some (.int .i64 (rd d1 ((a + i : Nat) : Int))) ∧ w.cell? ⟨bd, ((b + i : Nat) : Int).toNat, none⟩ = some (.int .i64 (rd d1 ((b + i : Nat) : Int)))) [21, 23] (bA 24 0) (by kernel_rfl) rfl rfl hS2 ?_)
  refine FA.pur (i := 0) (bA 24 1) rfl (by kernel_rfl) rfl rfl (p_move rfl) ?_
  refine FA.pur (i := 1) (bA 24 3) rfl (by kernel_rfl) rfl rfl (p_move rfl) ?_
  refine FA.pur (i := 2) (bA 24 7) rfl (by kernel_rfl) rfl rfl (p_move rfl) ?_
  refine FA.pur (i := 3) (bA 24 15) rfl (by kernel_rfl) rfl rfl (p_add rfl rfl ((wr (by omega) (by omega)).trans ea)) ?_
  refine FA.pur (i := 4) (bA 24 31) rfl (by kernel_rfl) rfl rfl (p_move rfl) ?_
  refine FA.pur (i := 5) (bA 24 63) rfl (by kernel_rfl) rfl rfl (p_move rfl) ?_
  refine FA.pur (i := 6) (bA 24 127) rfl (by kernel_rfl) rfl rfl (p_move rfl) ?_
  refine FA.pur (i := 7) (bA 24 255) rfl (by kernel_rfl) rfl rfl (p_add rfl rfl ((wr (by omega) (by omega)).trans eb)) ?_
  refine FA.pur (i := 8) (bA 24 511) rfl (by kernel_rfl) rfl rfl (p_move rfl) ?_
  refine FA.pur (i := 9) (bA 24 1023) rfl (by kernel_rfl) rfl rfl (p_move rfl) ?_
  refine FA.pur (i := 10) (bA 24 2047) rfl (by kernel_rfl) rfl rfl (p_move rfl) ?_
  refine FA.pur (i := 11) (bA 24 4095) rfl (by kernel_rfl) rfl rfl (p_add rfl rfl ((wr (by omega) (by omega)).trans eb)) ?_
  refine FA.pur (i := 12) (bA 24 8191) rfl (by kernel_rfl) rfl rfl (idx41 rfl rfl (by omega) (by omega)) ?_
  refine FA.pur (i := 14) (bA 24 24575) rfl (by kernel_rfl) rfl rfl (p_move rfl) ?_
  refine FA.pur (i := 15) (bA 24 57343) rfl (by kernel_rfl) rfl rfl (p_move rfl) ?_
  refine FA.pur (i := 16) (bA 24 122879) rfl (by kernel_rfl) rfl rfl (p_move rfl) ?_
  refine FA.pur (i := 17) (bA 24 253951) rfl (by kernel_rfl) rfl rfl (p_add rfl rfl ((wr (by omega) (by omega)).trans ea)) ?_
  refine FA.pur (i := 18) (bA 24 516095) rfl (by kernel_rfl) rfl rfl (idx41 rfl rfl (by omega) (by omega)) ?_
  refine FA.lod (i := 13) (bA 24 524287) rfl (by kernel_rfl) rfl rfl hS2 (fun _ hs => p_load rfl Try.underlying3 rfl hs.2) ?_
  refine FA.lod (i := 19) (bA 24 1048575) rfl (by kernel_rfl) rfl rfl hS2 (fun _ hs => p_load rfl Try.underlying3 rfl hs.1) ?_
  refine FA.pur (i := 20) (bA 24 2097151) rfl (by kernel_rfl) rfl rfl (idx41 rfl rfl (by omega) (by omega)) ?_
  refine FA.lastS (i := 21) _ (bA 24 4194303) rfl (by kernel_rfl) (by decide) rfl (st3 rfl rfl rfl hc1 (r5.unfr _)) ?_
  refine FA.pur (i := 22) (bA 24 8388607) rfl (by kernel_rfl) rfl rfl (idx41 rfl rfl (by omega) (by omega)) ?_
  refine FA.lastS (i := 23) _ (bA 24 16777215) rfl (by kernel_rfl) (by decide) rfl (st3 rfl rfl rfl hca (r6a.unfr _)) ?_
  refine FA.done (by kernel_rfl) ?_
  refine blk_normal (thn_normal ?_)
  refine FC.region ?_
  refine mv_ rfl rfl rfl ?_
  refine FL.pur rfl rfl (p_add rfl rfl ((wr (by omega) (by omega)).trans (show (i : Int) + 1 = ((i + 1 : Nat) : Int) by omega))) ?_
  refine sg_ rfl rfl rfl ?_
  refine FL.nil ?_
  refine ⟨(i + 1, swp d1 ((a + i : Nat) : Int) ((b + i : Nat) : Int)), ⟨rfl, rfl, rfl, rfl, rfl, rfl, trivial⟩, ⟨r6, f1.drew.trans' f6, by rw [swp_length]; exact hl1, by omega, ?_⟩, by show n - (i + 1) < n - i; omega⟩
  rw [← hres, show n - (i + 1) = f by omega]
  rfl

theorem swapRange_calls {L : Nat} (hr : Rw w B bd cap d) (hL : d.length = L) (c : Value) (a b n : Nat) (hab : a + n ≤ b) (hb : b + n ≤ L) :
    Calls Try.prog 60 #[.slice (some ⟨bd, 0, none⟩) L cap, .int .i64 a, .int .i64 b, .int .i64 n, c] w fun e w' => e = .returned (.tuple #[]) ∧ Rw w' B bd cap (swapN n a b d) ∧ FrB bd w w' := by
  subst hL; exact swapRange_calls0 hr c a b n hab hb
set_option maxHeartbeats 1000000 in
theorem rotate_calls0 (hr : Rw w B bd cap d) (c : Value) (a m b : Nat) (ham : a < m) (hmb : m < b) (hb : b ≤ d.length) :
    Calls Try.prog 59 #[.slice (some ⟨bd, 0, none⟩) d.length cap, .int .i64 a, .int .i64 m, .int .i64 b, c] w fun e w' => e = .returned (.tuple #[]) ∧ ∃ d', Rot a m b d d' ∧ Rw w' B bd cap d' ∧ FrB bd w w' := by
  have hcap := hr.len
  refine calls_of_FC (N := 58) (vs := [.slice (some ⟨bd, 0, none⟩) d.length cap, .int .i64 a, .int .i64 m, .int .i64 b, c]) Try.func59 rfl Try.ntmps59 (Nat.le_of_ble_eq_true rfl) ?_
  refine FC.seq (FC.region ?_)
  refine mv_ rfl rfl rfl ?_
  refine mv_ rfl rfl rfl ?_
  refine FL.pur rfl rfl (p_sub rfl rfl ((wr (by omega) (by omega)).trans (show (m : Int) - a = ((m - a : Nat) : Int) by omega))) ?_
  refine sg_ rfl rfl rfl ?_
  refine FL.nilK ?_
  refine FC.seq (FC.region ?_)
  refine mv_ rfl rfl rfl ?_
  refine mv_ rfl rfl rfl ?_
  refine FL.pur rfl rfl (p_sub rfl rfl ((wr (by omega) (by omega)).trans (show (b : Int) - m = ((b - m : Nat) : Int) by omega))) ?_
  refine sg_ rfl rfl rfl ?_
  refine FL.nilK ?_
  refine FC.cut (σ := Nat × List Int) (fun x => [(0, .slice (some ⟨bd, 0, none⟩) d.length cap), (1, .int .i64 a), (2, .int .i64 m), (3, .int .i64 b), (4, c), (10, .int .i64 x.1), (11, .int .i64 x.1)]) (fun x w2 => Rw w2 B bd cap x.2 ∧ FrB bd w w2 ∧ x.2.length = d.length ∧ 0 < x.1 ∧ x.1 ≤ m ∧ m + x.1 ≤ d.length ∧ ∀ e, Rot (m - x.1) m (m + x.1) x.2 e → Rot a m b d e) ?_ ?_
  · refine FC.block ?_
    refine FC.loop (σ := (Nat × Nat) × List Int) (fun x => [(0, .slice (some ⟨bd, 0, none⟩) d.length cap), (1, .int .i64 a), (2, .int .i64 m), (3, .int .i64 b), (4, c), (10, .int .i64 x.1.1), (11, .int .i64 x.1.2)]) (fun x w2 => Rw w2 B bd cap x.2 ∧ FrB bd w w2 ∧ x.2.length = d.length ∧ 0 < x.1.1 ∧ 0 < x.1.2 ∧ x.1.1 ≤ m ∧ m + x.1.2 ≤ d.length ∧ ∀ e, Rot (m - x.1.1) m (m + x.1.2) x.2 e → Rot a m b d e)
      (fun x => x.1.1 + x.1.2) ((m - a, b - m), d) ⟨hr, Fr.refl _ _, rfl, by show 0 < m - a; omega, by show 0 < b - m; omega, by show m - a ≤ m; omega, by show m + (b - m) ≤ d.length; omega, fun e he => by simp only at he; rwa [show m - (m - a) = a by omega, show m + (b - m) = b by omega] at he⟩ ⟨rfl, rfl, rfl, rfl, rfl, rfl, rfl, trivial⟩ ?_
    rintro ⟨⟨i, j⟩, d1⟩ w1 ⟨r1, f1, hl1, hi0, hj0, him, hjm, hres⟩
    simp only at r1 f1 hl1 hi0 hj0 him hjm hres ⊢
    refine FC.seq ?_
    by_cases hij : i = j
    · subst hij
      refine FC.seq (FC.region ?_)
      refine mv_ rfl rfl rfl ?_
      refine mv_ rfl rfl rfl ?_
      refine FL.pur rfl rfl (p_neq rfl rfl (by simp : _ = !false)) ?_
      refine FL.nilK ?_
      refine FC.cond_f rfl (FC.exit ?_)
      exact thn_exit (thn_exit (blk_exit ⟨(i, d1), ⟨rfl, rfl, rfl, rfl, rfl, rfl, rfl, trivial⟩, r1, f1, hl1, hi0, him, hjm, hres⟩))
    have hne : ¬ (i : Int) = (j : Int) := by omega
    refine FC.seq (FC.region ?_)
    refine mv_ rfl rfl rfl ?_
    refine mv_ rfl rfl rfl ?_
    refine FL.pur rfl rfl (p_neq rfl rfl (show decide ((i : Int) = (j : Int)) = !true by simp [hne])) ?_
    refine FL.nilK ?_
    refine FC.cond_t rfl (FC.skip (thn_normal ?_))
    refine FC.block ?_
    refine FC.seq (FC.region ?_)
    refine mv_ rfl rfl rfl ?_
    refine mv_ rfl rfl rfl ?_
    refine FL.pur rfl rfl (p_gtr rfl rfl rfl) ?_
    refine FL.nilK ?_
    refine FC.cond (decide ((j : Int) < (i : Int))) rfl (fun hc => ?_) (fun hc => ?_)
    · have hlt : j < i := by have := of_decide_eq_true hc; omega
      refine FC.seq ?_
      refine FC.region ?_
      refine mv_ rfl rfl rfl ?_
      refine mv_ rfl rfl rfl ?_
      refine mv_ rfl rfl rfl ?_
      refine FL.pur rfl rfl (p_sub rfl rfl ((wr (by omega) (by omega)).trans (show (m : Int) - i = ((m - i : Nat) : Int) by omega))) ?_
      refine mv_ rfl rfl rfl ?_
      refine mv_ rfl rfl rfl ?_
      refine mv_ rfl rfl rfl ?_
      refine FL.call rfl rfl (p_call Try.func60 rfl rfl rfl) (swapRange_calls r1 hl1 c (m - i) m j (by omega) (by omega)) ?_
      rintro e_ w_ ⟨rfl, r2, f2⟩
      refine ⟨_, rfl, ?_⟩
      refine FL.nil ?_
      refine thn_normal ?_
      refine FC.region ?_
      refine mv_ rfl rfl rfl ?_
      refine mv_ rfl rfl rfl ?_
      refine FL.pur rfl rfl (p_sub rfl rfl ((wr (by omega) (by omega)).trans (show (i : Int) - j = ((i - j : Nat) : Int) by omega))) ?_
      refine sg_ rfl rfl rfl ?_
      refine FL.nil ?_
      refine blk_normal ⟨((i - j, j), swapN j (m - i) m d1), ⟨rfl, rfl, rfl, rfl, rfl, rfl, rfl, trivial⟩, ⟨r2, f1.trans' f2, by rw [(swapN_g j (m - i) m d1 (by omega) (by omega)).1]; exact hl1, by show 0 < i - j; omega, hj0, by show i - j ≤ m; omega, hjm, fun e he => hres e (Rot.left him hlt (by omega) he)⟩, by show i - j + j < i + j; omega⟩
    · have hlt : ¬ j < i := by have := of_decide_eq_false hc; omega
      refine FC.seq ?_
      refine FC.region ?_
      refine mv_ rfl rfl rfl ?_
      refine mv_ rfl rfl rfl ?_
      refine mv_ rfl rfl rfl ?_
      refine FL.pur rfl rfl (p_sub rfl rfl ((wr (by omega) (by omega)).trans (show (m : Int) - i = ((m - i : Nat) : Int) by omega))) ?_
      refine mv_ rfl rfl rfl ?_
      refine mv_ rfl rfl rfl ?_
      refine FL.pur rfl rfl (p_add rfl rfl ((wr (by omega) (by omega)).trans (show (m : Int) + j = ((m + j : Nat) : Int) by omega))) ?_
      refine mv_ rfl rfl rfl ?_
      refine FL.pur rfl rfl (p_sub rfl rfl ((wr (by omega) (by omega)).trans (show ((m + j : Nat) : Int) - i = ((m + j - i : Nat) : Int) by omega))) ?_
      refine mv_ rfl rfl rfl ?_
      refine mv_ rfl rfl rfl ?_
      refine FL.call rfl rfl (p_call Try.func60 rfl rfl rfl) (swapRange_calls r1 hl1 c (m - i) (m + j - i) i (by omega) (by omega)) ?_
      rintro e_ w_ ⟨rfl, r2, f2⟩
      refine ⟨_, rfl, ?_⟩
      refine FL.nil ?_
      refine thn_normal ?_
      refine FC.region ?_
      refine mv_ rfl rfl rfl ?_
      refine mv_ rfl rfl rfl ?_
      refine FL.pur rfl rfl (p_sub rfl rfl ((wr (by omega) (by omega)).trans (show (j : Int) - i = ((j - i : Nat) : Int) by omega))) ?_
      refine sg_ rfl rfl rfl ?_
      refine FL.nil ?_
      refine blk_normal ⟨((i, j - i), swapN i (m - i) (m + j - i) d1), ⟨rfl, rfl, rfl, rfl, rfl, rfl, rfl, trivial⟩, ⟨r2, f1.trans' f2, by rw [(swapN_g i (m - i) (m + j - i) d1 (by omega) (by omega)).1]; exact hl1, hi0, by show 0 < j - i; omega, him, by show m + (j - i) ≤ d.length; omega, fun e he => hres e (Rot.right him (by omega) (by omega) he)⟩, by show i + (j - i) < i + j; omega⟩
  · rintro ⟨i, d1⟩ w1 ⟨r1, f1, hl1, hi0, him, hjm, hres⟩
    simp only at r1 f1 hl1 hi0 him hjm hres ⊢
    refine FC.region ?_
    refine mv_ rfl rfl rfl ?_
    refine mv_ rfl rfl rfl ?_
    refine mv_ rfl rfl rfl ?_
    refine FL.pur rfl rfl (p_sub rfl rfl ((wr (by omega) (by omega)).trans (show (m : Int) - i = ((m - i : Nat) : Int) by omega))) ?_
    refine mv_ rfl rfl rfl ?_
    refine mv_ rfl rfl rfl ?_
    refine mv_ rfl rfl rfl ?_
    refine FL.call rfl rfl (p_call Try.func60 rfl rfl rfl) (swapRange_calls r1 hl1 c (m - i) m i (by omega) (by omega)) ?_
    rintro e_ w_ ⟨rfl, r2, f2⟩
    refine ⟨_, rfl, ?_⟩
    refine FL.nil ?_
    have hfin := hres _ (Rot.last m i d1 him (by omega))
    exact end0 Try.results59 ⟨rfl, swapN i (m - i) m d1, hfin, r2, f1.trans' f2⟩
theorem rotate_calls {L : Nat} (hr : Rw w B bd cap d) (hL : d.length = L) (c : Value) (a m b : Nat) (ham : a < m) (hmb : m < b) (hb : b ≤ L) :
    Calls Try.prog 59 #[.slice (some ⟨bd, 0, none⟩) L cap, .int .i64 a, .int .i64 m, .int .i64 b, c] w fun e w' => e = .returned (.tuple #[]) ∧ ∃ d', Rot a m b d d' ∧ Rw w' B bd cap d' ∧ FrB bd w w' := by
  subst hL; exact rotate_calls0 hr c a m b ham hmb hb
end
end Go.Proofs.Ytcahhbcehnbdkaa.Sv
