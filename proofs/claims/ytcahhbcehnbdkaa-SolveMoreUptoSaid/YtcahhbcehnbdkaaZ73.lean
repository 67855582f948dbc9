/- Lemmas for: SolveMoreUpto holds: for every input the law returns true, and each argument reads behind the call as it read before. No condition. -/
import Derived.Test.YtcahhbcehnbdkaaZ72
set_option linter.unusedVariables false
set_option linter.unusedSimpArgs false
/- Propagation as a law: a clause more. -/
namespace Go.Proofs.Ytcahhbcehnbdkaa.Sv
open Go.RowKit Go.Proofs.YtcahhbcehnbdkaaW.PrintWords

section
variable {Φ Φ' : List (List Int)} {A : Int → Prop} {s : S} {n T : Nat} {ks : List Nat}
theorem Ok.more (h : Ok Φ A s n T ks) (hΦ : ∀ c ∈ Φ, c ∈ Φ') : Ok Φ' A s n T ks :=
  { h with
    sound := fun l hl => (h.sound l hl).mono hΦ fun _ h => h
    src := fun j hj => (h.src j hj).elim fun c e => ⟨c, hΦ c e.1, e.2⟩ }
theorem Ok.room (h : Ok Φ A s n T ks) {T' : Nat} (hT : T ≤ T') (hm : T' < 1099511627774) : Ok Φ A s n T' ks :=
  { h with good := { h.good with ws := Nat.le_trans h.good.ws hT, tmax := hm } }

theorem cw_withC (c : List Int) (j : Nat) : cw (withC s c) j = if j = s.clauses.length then c else cw s j := by
  unfold cw withC
  simp only [List.getD_eq_getElem?_getD]
  by_cases e : j = s.clauses.length
  · subst e; simp
  · rw [if_neg e]
    by_cases h : j < s.clauses.length
    · rw [List.getElem?_append_left h]
    · rw [List.getElem?_eq_none (by simp; omega), List.getElem?_eq_none (by omega)]
theorem len_withC (c : List Int) : (withC s c).clauses.length = s.clauses.length + 1 := by simp [withC]
theorem two_withC (c : List Int) (j : Nat) : Two (withC s c) j ↔ Two s j ∨ (j = s.clauses.length ∧ 2 ≤ c.length) := by
  unfold Two
  rw [cw_withC, len_withC]
  by_cases e : j = s.clauses.length
  · rw [if_pos e]
    constructor
    · rintro ⟨_, h⟩; exact .inr ⟨e, h⟩
    · rintro (⟨h1, _⟩ | ⟨_, h⟩)
      · omega
      · exact ⟨by omega, h⟩
  · rw [if_neg e]
    constructor
    · rintro ⟨h1, h2⟩; exact .inl ⟨by omega, h2⟩
    · rintro (⟨h1, h2⟩ | ⟨h, _⟩)
      · exact ⟨by omega, h2⟩
      · exact absurd h e
theorem wt_withC (c : List Int) {j : Nat} (hj : j ≠ s.clauses.length) (x y : Int) : Wt (withC s c) j x y ↔ Wt s j x y := by
  unfold Wt; rw [cw_withC, if_neg hj]

/-- One clause more, whose number is in watch lists of one's own choice. -/
theorem Good.withC (h : Good s n T) {c : List Int} (hc : ∀ l ∈ c, Lit n l ∧ l ≠ 0) (hl : s.clauses.length + 1 < 1099511627776) : Good (Sv.withC s c) n T :=
  { h with
    cls := by rw [len_withC]; exact hl
    cl := fun c' hc' => by
      rcases List.mem_append.1 hc' with h1 | h1
      · exact h.cl c' h1
      · rw [List.mem_singleton.1 h1]; exact fun l hl => (hc l hl).1
    nzc := fun c' hc' => by
      rcases List.mem_append.1 hc' with h1 | h1
      · exact h.nzc c' h1
      · rw [List.mem_singleton.1 h1]; exact fun l hl => (hc l hl).2
    wt := fun r hr i hi => by
      obtain ⟨h1, h2, h3⟩ := h.wt r hr i hi
      refine ⟨h1, by rw [len_withC]; omega, ?_⟩
      have e := cw_withC (s := s) c i.toNat
      rw [if_neg (by omega)] at e
      show 2 ≤ (cw (Sv.withC s c) i.toNat).length
      rw [e]
      exact h3 }
theorem Ok.short (h : Ok Φ A s n T ks) {c : List Int} (hc : ∀ l ∈ c, Lit n l ∧ l ≠ 0) (hl : s.clauses.length + 1 < 1099511627776) (h1 : c.length < 2) (hnd : c.Nodup) : Ok Φ A (withC s c) n T ks := by
  have two : ∀ j, Two (withC s c) j → Two s j ∧ j ≠ s.clauses.length := fun j hj => by
    rcases (two_withC c j).1 hj with h2 | ⟨_, h2⟩
    · exact ⟨h2, by have := h2.1; omega⟩
    · omega
  refine ⟨h.good.withC hc hl, ⟨fun j x y hj hw => ?_, fun q j hq hj => ?_, h.net.nd, fun c' hc' => ?_⟩, h.tnd, h.only, h.sound, fun j hj => ?_, h.kle, fun k hk j x y hj hw => ?_⟩
  · obtain ⟨t1, t2⟩ := two j hj
    exact h.net.has j x y t1 ((wt_withC c t2 x y).1 hw)
  · obtain ⟨x, y, hw, e⟩ := h.net.only q j hq hj
    have hjn : j ≠ s.clauses.length := by
      have := (h.good.wt (s.watch.getD q []) (mem_getD (by rw [h.good.watch]; exact hq)) j hj).2.1
      omega
    exact ⟨x, y, (wt_withC c hjn x y).2 hw, e⟩
  · rcases List.mem_append.1 hc' with h2 | h2
    · exact h.net.cnd c' h2
    · rw [List.mem_singleton.1 h2]; exact hnd
  · obtain ⟨t1, t2⟩ := two j hj
    obtain ⟨c0, e1, e2⟩ := h.src j t1
    exact ⟨c0, e1, fun x => by rw [e2, cw_withC, if_neg t2]⟩
  · obtain ⟨t1, t2⟩ := two j hj
    exact h.wat k hk j x y t1 ((wt_withC c t2 x y).1 hw)
theorem Pro.short {k : Nat} {E : Nat → Int → Prop} (h : Pro s k E) {c : List Int} (h1 : c.length < 2) : Pro (withC s c) k E := fun j x y hj hw => by
  rcases (two_withC c j).1 hj with h2 | ⟨_, h2⟩
  · exact h j x y h2 ((wt_withC c (by have := h2.1; omega) x y).1 hw)
  · omega
theorem cov_withC (c : List Int) {k : Nat} (h : Cov Φ s k) : Cov Φ (withC s c) k := fun c' hc' => by
  rcases h c' hc' with h1 | h1 | ⟨j, h1, h2⟩
  · exact .inl h1
  · exact .inr (.inl h1)
  · exact .inr (.inr ⟨j, (two_withC c j).2 (.inl h1), fun x => by rw [cw_withC, if_neg (by have := h1.1; omega)]; exact h2 x⟩)

def add2 (s : S) (c0 c1 : Int) (r : List Int) : S := { withC s (c0 :: c1 :: r) with watch := pushW (pushW s.watch (codeL c0).toNat s.clauses.length) (codeL c1).toNat s.clauses.length }
theorem row_push (l : List (List Int)) (p q : Nat) (x : Int) : (pushW l p x).getD q [] = if q = p then (if q < l.length then l.getD q [] ++ [x] else []) else l.getD q [] := by
  unfold pushW
  simp only [List.getD_eq_getElem?_getD, List.getElem?_set]
  by_cases e : q = p
  · subst e
    by_cases h : q < l.length
    · simp [h]
    · simp [h]
  · simp [e, Ne.symm e]
theorem Ok.add2 (h : Ok Φ A s n T ks) {c0 c1 : Int} {r : List Int} (hc : ∀ l ∈ c0 :: c1 :: r, Lit n l ∧ l ≠ 0) (hl : s.clauses.length + 1 < 1099511627776) (hT : T + 2 < 1099511627774) (hnd : (c0 :: c1 :: r).Nodup) (hsrc : ∃ c ∈ Φ, ∀ x, x ∈ c ↔ x ∈ c0 :: c1 :: r)
    (hk : ∀ k ∈ ks, -c0 ∉ s.trail.take k ∧ -c1 ∉ s.trail.take k) : Ok Φ A (Sv.add2 s c0 c1 r) n (T + 2) ks := by
  have hg := h.good.withC hc hl
  have L0 := (hc c0 (by simp)).1
  have L1 := (hc c1 (by simp)).1
  have n01 : c0 ≠ c1 := fun e => by rw [e] at hnd; simp at hnd
  have ncd : cd c1 ≠ cd c0 := fun e => n01 (cd_inj L0 L1 e.symm)
  have l0 : cd c0 < s.watch.length := by have := L0.code; rw [h.good.watch]; unfold cd; omega
  have l1 : cd c1 < s.watch.length := by have := L1.code; rw [h.good.watch]; unfold cd; omega
  have hrow : ∀ q, row (Sv.add2 s c0 c1 r) q = row s q ++ (if q = cd c0 ∨ q = cd c1 then [(s.clauses.length : Int)] else []) := fun q => by
    show (pushW (pushW s.watch (cd c0) s.clauses.length) (cd c1) s.clauses.length).getD q [] = _
    rw [row_push, row_push]
    by_cases e1 : q = cd c1
    · rw [if_pos e1, if_pos (by simp [pushW]; omega), if_neg (by omega), if_pos (.inr e1)]; rfl
    · rw [if_neg e1]
      by_cases e0 : q = cd c0
      · rw [if_pos e0, if_pos (by omega), if_pos (.inl e0)]; rfl
      · rw [if_neg e0, if_neg (by rintro (e | e) <;> contradiction), List.append_nil]; rfl
  have hcw : ∀ j, cw (Sv.add2 s c0 c1 r) j = if j = s.clauses.length then c0 :: c1 :: r else cw s j := fun j => cw_withC _ j
  have two : ∀ j, Two (Sv.add2 s c0 c1 r) j ↔ Two s j ∨ j = s.clauses.length := fun j => by
    refine (two_withC (c0 :: c1 :: r) j).trans ?_
    simp
  have wtO : ∀ j x y, j ≠ s.clauses.length → (Wt (Sv.add2 s c0 c1 r) j x y ↔ Wt s j x y) := fun j x y e => wt_withC _ e x y
  have wtN : ∀ x y, Wt (Sv.add2 s c0 c1 r) s.clauses.length x y ↔ (x = c0 ∧ y = c1) ∨ (x = c1 ∧ y = c0) := fun x y => by
    unfold Wt; rw [hcw, if_pos rfl]; exact Iff.rfl
  have ne_of : ∀ j, Two s j → j ≠ s.clauses.length := fun j hj => by have := hj.1; omega
  have inrow : ∀ q (j : Nat), (j : Int) ∈ row s q → j < s.clauses.length := fun q j hj => by
    by_cases hq : q < s.watch.length
    · have := (h.good.wt (s.watch.getD q []) (mem_getD hq) j hj).2.1
      omega
    · have : row s q = [] := by unfold row; rw [List.getD_eq_getElem?_getD, List.getElem?_eq_none (by omega)]; rfl
      rw [this] at hj; cases hj
  refine ⟨{ value := hg.value, level := hg.level, reason := hg.reason, watch := ?_, small := hg.small, nmax := hg.nmax, cls := hg.cls, cl := hg.cl, wt := fun rw_ hr i hi => ?_, ws := ?_, tmax := hT, tr := hg.tr, trl := hg.trl, hd0 := hg.hd0, hd1 := hg.hd1, nzc := hg.nzc, nzt := hg.nzt, tt := hg.tt }, ⟨fun j x y hj hw => ?_, fun q j hq hj => ?_, fun q => ?_, fun c' hc' => ?_⟩, h.tnd, h.only, h.sound, fun j hj => ?_, h.kle, fun k hk' j x y hj hw hx => ?_⟩
  · show (pushW (pushW s.watch _ _) _ _).length = _
    simp only [pushW, List.length_set]
    exact h.good.watch
  · obtain ⟨q, hq, rfl⟩ := List.mem_iff_getElem.1 hr
    have hq' : q < s.watch.length := by
      have : q < (pushW (pushW s.watch (codeL c0).toNat s.clauses.length) (codeL c1).toNat s.clauses.length).length := hq
      simpa [pushW] using this
    have e : (Sv.add2 s c0 c1 r).watch[q] = row (Sv.add2 s c0 c1 r) q := by unfold row; rw [List.getD_eq_getElem?_getD, List.getElem?_eq_getElem hq]; rfl
    rw [e, hrow] at hi
    rcases List.mem_append.1 hi with h1 | h1
    · obtain ⟨w1, w2, w3⟩ := h.good.wt (s.watch.getD q []) (mem_getD hq') i h1
      refine ⟨w1, by show i < ((withC s (c0 :: c1 :: r)).clauses.length : Int); rw [len_withC]; omega, ?_⟩
      show 2 ≤ (cw (Sv.add2 s c0 c1 r) i.toNat).length
      rw [hcw, if_neg (by omega)]
      exact w3
    · split at h1
      · rw [List.mem_singleton.1 h1]
        refine ⟨by omega, by show (s.clauses.length : Int) < ((withC s (c0 :: c1 :: r)).clauses.length : Int); rw [len_withC]; omega, ?_⟩
        show 2 ≤ (cw (Sv.add2 s c0 c1 r) (s.clauses.length : Int).toNat).length
        rw [hcw, if_pos (by omega)]
        simp
      · cases h1
  · have s0 := sum_set s.watch (cd c0) (s.watch.getD (cd c0) [] ++ [(s.clauses.length : Int)]) l0
    have s1 := sum_set (pushW s.watch (cd c0) s.clauses.length) (cd c1) ((pushW s.watch (cd c0) s.clauses.length).getD (cd c1) [] ++ [(s.clauses.length : Int)]) (by simp [pushW]; omega)
    have := h.good.ws
    show ((pushW (pushW s.watch (cd c0) s.clauses.length) (cd c1) s.clauses.length).map List.length).sum ≤ T + 2
    simp only [List.length_append, List.length_cons, List.length_nil] at s0 s1
    have e1 : ((pushW s.watch (cd c0) s.clauses.length).map List.length).sum = ((s.watch.set (cd c0) (s.watch.getD (cd c0) [] ++ [(s.clauses.length : Int)])).map List.length).sum := rfl
    have e2 : ((pushW (pushW s.watch (cd c0) s.clauses.length) (cd c1) s.clauses.length).map List.length).sum = (((pushW s.watch (cd c0) s.clauses.length).set (cd c1) ((pushW s.watch (cd c0) s.clauses.length).getD (cd c1) [] ++ [(s.clauses.length : Int)])).map List.length).sum := rfl
    omega
  · rw [hrow]
    rcases (two j).1 hj with h1 | h1
    · exact List.mem_append.2 (.inl (h.net.has j x y h1 ((wtO j x y (ne_of j h1)).1 hw)))
    · subst h1
      refine List.mem_append.2 (.inr ?_)
      rcases (wtN x y).1 hw with ⟨rfl, _⟩ | ⟨rfl, _⟩
      · rw [if_pos (.inl rfl)]; exact List.mem_singleton.2 rfl
      · rw [if_pos (.inr rfl)]; exact List.mem_singleton.2 rfl
  · rw [hrow] at hj
    rcases List.mem_append.1 hj with h1 | h1
    · obtain ⟨x, y, hw, e⟩ := h.net.only q j hq h1
      exact ⟨x, y, (wtO j x y (by have := inrow q j h1; omega)).2 hw, e⟩
    · split at h1
      · rename_i hq2
        obtain rfl : j = s.clauses.length := by have := List.mem_singleton.1 h1; omega
        rcases hq2 with e | e
        · exact ⟨c0, c1, (wtN _ _).2 (.inl ⟨rfl, rfl⟩), e⟩
        · exact ⟨c1, c0, (wtN _ _).2 (.inr ⟨rfl, rfl⟩), e⟩
      · cases h1
  · rw [hrow, List.nodup_append]
    refine ⟨h.net.nd q, by split <;> simp, fun a ha b hb e => ?_⟩
    split at hb
    · rw [List.mem_singleton] at hb
      subst hb; subst e
      have := inrow q _ ha
      omega
    · cases hb
  · rcases List.mem_append.1 (show c' ∈ s.clauses ++ [c0 :: c1 :: r] from hc') with h2 | h2
    · exact h.net.cnd c' h2
    · rw [List.mem_singleton.1 h2]; exact hnd
  · rw [hcw]
    rcases (two j).1 hj with h1 | h1
    · rw [if_neg (ne_of j h1)]; exact h.src j h1
    · rw [if_pos h1]; exact hsrc
  · rcases (two j).1 hj with h1 | h1
    · exact h.wat k hk' j x y h1 ((wtO j x y (ne_of j h1)).1 hw) hx
    · subst h1
      obtain ⟨k0, k1⟩ := hk k hk'
      rcases (wtN x y).1 hw with ⟨rfl, _⟩ | ⟨rfl, _⟩
      · exact absurd hx k0
      · exact absurd hx k1
theorem Pro.add2 {k : Nat} {E : Nat → Int → Prop} (h : Pro s k E) (c0 c1 : Int) (r : List Int) : Pro (Sv.add2 s c0 c1 r) k fun j x => E j x ∨ ((x = c0 ∨ x = c1) ∧ -x ∈ s.trail.take k) := fun j x y hj hw hx => by
  rcases (two_withC (c0 :: c1 :: r) j).1 hj with h2 | ⟨h2, _⟩
  · exact (h j x y h2 ((wt_withC _ (by have := h2.1; omega) x y).1 hw) hx).imp id .inl
  · subst h2
    have hw' : (x = c0 ∧ y = c1) ∨ (x = c1 ∧ y = c0) := by
      unfold Wt at hw
      rw [show cw (Sv.add2 s c0 c1 r) s.clauses.length = c0 :: c1 :: r from (cw_withC _ _).trans (if_pos rfl)] at hw
      exact hw
    exact .inr (.inr ⟨hw'.imp And.left And.left, hx⟩)
end
end Go.Proofs.Ytcahhbcehnbdkaa.Sv

/- Propagation as a law: a clause is put in. -/
namespace Go.Proofs.Ytcahhbcehnbdkaa.Sv
open Go.RowKit Go.Proofs.YtcahhbcehnbdkaaW.PrintWords

def cutL (s : S) (own : List Int) : List Int :=
  let o2 := if 1 < own.length ∧ ofv s (g own 1) = -1 then own.take 1 else own
  if o2.length = 1 ∧ ofv s (g o2 0) = -1 then [] else o2
def putS (n : Nat) (s : S) (own : List Int) : S × Bool :=
  if (addS s (cutL s own)).2 = false then ((addS s (cutL s own)).1, true)
  else ((prop (n + 1 - (addS s (cutL s own)).1.head.toNat) (addS s (cutL s own)).1).1, decide (0 ≤ (prop (n + 1 - (addS s (cutL s own)).1.head.toNat) (addS s (cutL s own)).1).2))

section
variable {Φ : List (List Int)} {s : S} {n T : Nat}
theorem Cov.mono {k k' : Nat} (h : Cov Φ s k) (hk : k ≤ k') : Cov Φ s k' := fun c hc => by
  rcases h c hc with h1 | ⟨l, h1, h2⟩ | h1
  · exact .inl h1
  · refine .inr (.inl ⟨l, h1, ?_⟩)
    have e : s.trail.take k = (s.trail.take k').take k := by rw [List.take_take, Nat.min_eq_left hk]
    rw [e] at h2
    exact List.mem_of_mem_take h2
  · exact .inr (.inr h1)
theorem Cov.snoc {k : Nat} (h : Cov Φ s k) {c : List Int} (hc : Taut c ∨ (∃ l ∈ c, l ∈ s.trail.take k) ∨ ∃ j, Two s j ∧ ∀ x, x ∈ c ↔ x ∈ cw s j) : Cov (Φ ++ [c]) s k := fun c' hc' => by
  rcases List.mem_append.1 hc' with h1 | h1
  · exact h c' h1
  · rw [List.mem_singleton.1 h1]; exact hc
theorem nz_snoc (h : ∀ c ∈ Φ, ∀ l ∈ c, l ≠ 0) {c : List Int} (hc : ∀ l ∈ c, Lit n l ∧ l ≠ 0) : ∀ c' ∈ Φ ++ [c], ∀ l ∈ c', l ≠ 0 := fun c' hc' => by
  rcases List.mem_append.1 hc' with h1 | h1
  · exact h c' h1
  · rw [List.mem_singleton.1 h1]; exact fun l hl => (hc l hl).2
theorem Still.skip (h : Still Φ s n T) {c : List Int} (hc : ∀ l ∈ c, Lit n l ∧ l ≠ 0) (hs : Taut c ∨ ∃ l ∈ c, ofv s l = 1) : Still (Φ ++ [c]) s n T :=
  { h with
    ok := h.ok.more fun c hc => List.mem_append.2 (.inl hc)
    cov := h.cov.snoc (hs.imp id fun ⟨l, h1, h2⟩ => .inl ⟨l, h1, by rw [List.take_length]; exact (h.ok.true_ (hc l h1).1 (hc l h1).2).1 h2⟩)
    nz := nz_snoc h.nz hc }
theorem settle (h : Ok Φ (fun _ => False) s n T []) (hp : Pro s s.head.toNat fun _ _ => False) (hc : Cov Φ s s.trail.length) (hz : ∀ c ∈ Φ, ∀ l ∈ c, l ≠ 0) (hm : s.marks = []) :
    ((prop (n + 1 - s.head.toNat) s).2 < 0 → Still Φ (prop (n + 1 - s.head.toNat) s).1 n T) ∧ (0 ≤ (prop (n + 1 - s.head.toNat) s).2 → Conf Φ fun _ => False) ∧ Ext s (prop (n + 1 - s.head.toNat) s).1 := by
  obtain ⟨p1, p2, p3⟩ := prop_ok (n + 1 - s.head.toNat) s (by have := h.good.hd1; have := h.good.hd0; have := h.good.tr; omega) h hp
  obtain ⟨more, em⟩ := p2.trail
  rcases p3 with ⟨e, p4, p5⟩ | ⟨e, p4⟩
  · refine ⟨fun _ => ⟨p1, p4, p5, ?_, hz, by rw [p2.marks, hm]⟩, fun e' => by omega, p2⟩
    refine (hc.ext p2.same ?_).mono (by rw [em, List.length_append]; omega)
    rw [em, List.take_left', List.take_length]; rfl
  · exact ⟨fun e' => by omega, fun _ => p4.conf p1, p2⟩

theorem put_law (h : Still Φ s n T) (hT : T + 2 < 1099511627774) (hl : s.clauses.length + 1 < 1099511627776) {c own : List Int} (hc : ∀ l ∈ c, Lit n l ∧ l ≠ 0) (hnd : own.Nodup) (hm : ∀ x, x ∈ own ↔ x ∈ c) (hsd : Sd (ofv s) own 0 own.length) (hno : ∀ l ∈ own, ofv s l ≠ 1) :
    ((putS n s own).2 = false → Still (Φ ++ [c]) (putS n s own).1 n (T + 2)) ∧ ((putS n s own).2 = true → Conf (Φ ++ [c]) fun _ => False) ∧ (putS n s own).1.clauses.length ≤ s.clauses.length + 1 ∧ ((addS s (cutL s own)).2 = true → Good (addS s (cutL s own)).1 n (T + 2)) := by
  have hlit : ∀ l ∈ own, Lit n l ∧ l ≠ 0 := fun l hl => hc l ((hm l).1 hl)
  have hval : ∀ l ∈ own, ofv s l = 0 ∨ ofv s l = -1 := fun l hl => by
    have := ofv_small h.ok.good.value h.ok.good.small (hlit l hl).1
    have := hno l hl
    omega
  have hokM : Ok (Φ ++ [c]) (fun _ => False) s n (T + 2) [] := (h.ok.more fun c hc => List.mem_append.2 (.inl hc)).room (by omega) hT
  have hokT : Ok (Φ ++ [c]) (fun _ => False) s n T [] := h.ok.more fun c hc => List.mem_append.2 (.inl hc)
  have hcin : c ∈ Φ ++ [c] := by simp
  have hnz := nz_snoc (n := n) h.nz hc
  have hdf : ∀ m, m ∈ c → ofv s m = -1 → D (Φ ++ [c]) (fun _ => False) (-m) := fun m hm' hv => hokM.sound _ ((hokM.false_ (hc m hm').1 (hc m hm').2).1 hv)
  have hhd : s.head.toNat = s.trail.length := by rw [h.head]; rfl
  have hmem0 : 0 < own.length → g own 0 ∈ own := fun h0 => rd_mem own 0 (by omega) (by omega)
  -- a conflict at once
  have empty : cutL s own = [] → (∀ m ∈ own, ofv s m = -1) → ((putS n s own).2 = false → Still (Φ ++ [c]) (putS n s own).1 n (T + 2)) ∧ ((putS n s own).2 = true → Conf (Φ ++ [c]) fun _ => False) ∧ (putS n s own).1.clauses.length ≤ s.clauses.length + 1 ∧ ((addS s (cutL s own)).2 = true → Good (addS s (cutL s own)).1 n (T + 2)) := fun e hall => by
    have e2 : putS n s own = (s, true) := by unfold putS; rw [e]; rfl
    rw [e2]
    exact ⟨fun e => (by cases e), fun _ => ⟨c, hcin, fun m hm' => hdf m hm' (hall m ((hm m).2 hm'))⟩, by show s.clauses.length ≤ _; omega, fun e3 => by rw [e] at e3; cases e3⟩
  -- one literal is left
  have single : ∀ l, cutL s own = [l] → l ∈ own → ofv s l = 0 → (∀ m ∈ own, m ≠ l → ofv s m = -1) → ((putS n s own).2 = false → Still (Φ ++ [c]) (putS n s own).1 n (T + 2)) ∧ ((putS n s own).2 = true → Conf (Φ ++ [c]) fun _ => False) ∧ (putS n s own).1.clauses.length ≤ s.clauses.length + 1 ∧ ((addS s (cutL s own)).2 = true → Good (addS s (cutL s own)).1 n (T + 2)) := fun l e hl0 hv hall => by
    obtain ⟨hL, hz⟩ := hlit l hl0
    have hd : D (Φ ++ [c]) (fun _ => False) l := .unit hcin ((hm l).1 hl0) fun m hm' hne => hdf m hm' (hall m ((hm m).2 hm') hne)
    have hone : ∀ x ∈ [l], Lit n x ∧ x ≠ 0 := fun x hx => by rw [List.mem_singleton.1 hx]; exact ⟨hL, hz⟩
    have k1 := (hokM.short hone hl (by simp) (by simp)).setS (r := (s.clauses.length : Int)) hL hz hv hd
    have kp : Pro (setS (withC s [l]) l s.clauses.length) (setS (withC s [l]) l s.clauses.length).head.toNat fun _ _ => False := by
      have h5 : Pro (withC s [l]) s.trail.length fun _ _ => False := h.pro.short (by simp)
      have h6 := h5.setS (s := withC s [l]) (l := l) (r := (s.clauses.length : Int)) (Nat.le_refl _)
      show Pro _ s.head.toNat _
      rw [hhd]
      exact h6
    have e1 : (addS s [l]) = (setS (withC s [l]) l s.clauses.length, true) := by
      have := ofv_set_self (s := withC s [l]) (r := (s.clauses.length : Int)) h.ok.good.value hL
      simp only [addS, if_pos hv, this]
      rfl
    have kc : Cov (Φ ++ [c]) (setS (withC s [l]) l s.clauses.length) (setS (withC s [l]) l s.clauses.length).trail.length := by
      refine Cov.snoc ?_ (.inr (.inl ⟨l, (hm l).1 hl0, ?_⟩))
      · have h5 : Cov Φ (withC s [l]) s.trail.length := cov_withC [l] h.cov
        refine Cov.mono (k := s.trail.length) (h5.ext (fun j => ⟨.rfl, fun x => .rfl⟩) ?_) ?_
        · show (s.trail ++ [l]).take s.trail.length = s.trail.take s.trail.length
          rw [List.take_left', List.take_length]; rfl
        · show s.trail.length ≤ (s.trail ++ [l]).length
          rw [List.length_append]; omega
      · show l ∈ (s.trail ++ [l]).take (s.trail ++ [l]).length
        rw [List.take_length]; simp
    obtain ⟨t1, t2, t3⟩ := settle k1 kp kc hnz h.marks
    have e2 : putS n s own = ((prop (n + 1 - (setS (withC s [l]) l s.clauses.length).head.toNat) (setS (withC s [l]) l s.clauses.length)).1, decide (0 ≤ (prop (n + 1 - (setS (withC s [l]) l s.clauses.length).head.toNat) (setS (withC s [l]) l s.clauses.length)).2)) := by
      unfold putS; rw [e, e1]; rfl
    rw [e2]
    refine ⟨fun e => t1 (by have := of_decide_eq_false e; omega), fun e => t2 (of_decide_eq_true e), ?_, fun _ => by rw [e, e1]; exact k1.good⟩
    show (prop _ _).1.clauses.length ≤ _
    rw [t3.nclauses]
    exact Nat.le_of_eq (len_withC [l])
  match own, hnd, hm, hsd, hno, hlit, hval, hmem0, empty, single with
  | [], _, _, _, _, _, _, _, empty, _ => exact empty rfl fun m hm => by cases hm
  | [l], _, _, _, _, _, hval, _, empty, single =>
    by_cases hv : ofv s l = -1
    · exact empty (by unfold cutL; simp [g, hv]) fun m hm => by rw [List.mem_singleton.1 hm]; exact hv
    · have h0 : ofv s l = 0 := (hval l (by simp)).resolve_right hv
      exact single l (by unfold cutL; simp [g, hv]) (by simp) h0 fun m hm hne => absurd (List.mem_singleton.1 hm) hne
  | l0 :: l1 :: r, hnd, hm, hsd, hno, hlit, hval, _, empty, single =>
    have hs1 : ∀ m ∈ l1 :: r, ofv s m ≤ ofv s l1 := fun m hm' => by
      obtain ⟨i, hi, rfl⟩ := List.mem_iff_getElem.1 hm'
      have := hsd.le (i := 1) (j := i + 1) (Nat.zero_le _) (by omega) (by simp at hi ⊢; omega)
      have e : g (l0 :: l1 :: r) (i + 1) = (l1 :: r)[i] := by
        simp only [g, List.getD_eq_getElem?_getD, List.getElem?_cons_succ]
        rw [List.getElem?_eq_getElem hi]; rfl
      rw [e] at this
      exact this
    by_cases hv1 : ofv s l1 = -1
    · have hall1 : ∀ m ∈ l1 :: r, ofv s m = -1 := fun m hm' => by
        have := hs1 m hm'
        rcases hval m (.tail _ hm') with h5 | h5
        · omega
        · exact h5
      by_cases hv0 : ofv s l0 = -1
      · exact empty (by unfold cutL; simp [g, hv0, hv1]) fun m hm' => by
          rcases List.mem_cons.1 hm' with rfl | h5
          · exact hv0
          · exact hall1 m h5
      · exact single l0 (by unfold cutL; simp [g, hv0, hv1]) (by simp) ((hval l0 (by simp)).resolve_right hv0) fun m hm' hne => by
          rcases List.mem_cons.1 hm' with h5 | h5
          · exact absurd h5 hne
          · exact hall1 m h5
    · have h1 : ofv s l1 = 0 := (hval l1 (by simp)).resolve_right hv1
      have h0 : ofv s l0 = 0 := by
        have := hsd.le (i := 0) (j := 1) (Nat.le_refl _) (by omega) (by simp)
        have e0 : g (l0 :: l1 :: r) 0 = l0 := rfl
        have e1 : g (l0 :: l1 :: r) 1 = l1 := rfl
        rw [e0, e1] at this
        rcases hval l0 (by simp) with h5 | h5
        · exact h5
        · omega
      have e : cutL s (l0 :: l1 :: r) = l0 :: l1 :: r := by unfold cutL; simp [g, hv1]
      have k1 := hokT.add2 (c0 := l0) (c1 := l1) (r := r) hlit hl hT hnd ⟨c, hcin, fun x => (hm x).symm⟩ (fun k hk => by cases hk)
      have nf : ∀ x, x = l0 ∨ x = l1 → -x ∉ s.trail := fun x hx hx2 => by
        have hx1 : x ∈ l0 :: l1 :: r := by rcases hx with rfl | rfl <;> simp
        have := (h.ok.false_ (hlit x hx1).1 (hlit x hx1).2).2 hx2
        rcases hx with rfl | rfl <;> omega
      have kp : Pro (add2 s l0 l1 r) (add2 s l0 l1 r).head.toNat fun _ _ => False := by
        have h5 := (h.pro.add2 l0 l1 r).weak (E' := fun _ _ => False) fun j x h6 => by
          rcases h6 with h6 | ⟨h6, h7⟩
          · exact h6
          · exact nf x h6 (List.mem_of_mem_take h7)
        show Pro _ s.head.toNat _
        rw [hhd]
        exact h5
      have kc : Cov (Φ ++ [c]) (add2 s l0 l1 r) (add2 s l0 l1 r).trail.length := by
        refine Cov.snoc (cov_withC (l0 :: l1 :: r) h.cov) (.inr (.inr ⟨s.clauses.length, (two_withC (l0 :: l1 :: r) _).2 (.inr ⟨rfl, by simp⟩), fun x => ?_⟩))
        rw [cw_withC, if_pos rfl]
        exact (hm x).symm
      obtain ⟨t1, t2, t3⟩ := settle k1 kp kc hnz h.marks
      have e2 : putS n s (l0 :: l1 :: r) = ((prop (n + 1 - (add2 s l0 l1 r).head.toNat) (add2 s l0 l1 r)).1, decide (0 ≤ (prop (n + 1 - (add2 s l0 l1 r).head.toNat) (add2 s l0 l1 r)).2)) := by
        unfold putS; rw [e]; rfl
      rw [e2]
      refine ⟨fun e => t1 (by have := of_decide_eq_false e; omega), fun e => t2 (of_decide_eq_true e), ?_, fun _ => by rw [e]; exact k1.good⟩
      show (prop _ _).1.clauses.length ≤ _
      rw [t3.nclauses]
      exact Nat.le_of_eq (len_withC _)

theorem cleanL_some : ∀ (r out own : List Int), out.Nodup → cleanL r out = some own → own.Nodup ∧ ∀ x, x ∈ own ↔ x ∈ out ∨ x ∈ r
  | [], out, own, hn, h => by
    unfold cleanL at h
    injection h with h
    subst h
    exact ⟨hn, fun x => by simp⟩
  | l :: r, out, own, hn, h => by
    unfold cleanL at h
    split at h
    · cases h
    · by_cases hl : l ∈ out
      · rw [if_pos hl] at h
        obtain ⟨h1, h2⟩ := cleanL_some r out own hn h
        refine ⟨h1, fun x => (h2 x).trans ?_⟩
        rw [List.mem_cons]
        exact ⟨fun h => h.imp id .inr, fun h => h.elim .inl fun h => h.elim (fun e => .inl (e ▸ hl)) .inr⟩
      · rw [if_neg hl] at h
        obtain ⟨h1, h2⟩ := cleanL_some r (out ++ [l]) own (by
          rw [List.nodup_append]
          exact ⟨hn, by simp, fun a ha b hb e => hl (by rw [List.mem_singleton] at hb; rw [← hb, ← e]; exact ha)⟩) h
        refine ⟨h1, fun x => (h2 x).trans ?_⟩
        rw [List.mem_cons, List.mem_append, List.mem_singleton, or_assoc]
theorem cleanL_none : ∀ (r out : List Int), cleanL r out = none → ∃ l ∈ r, -l ∈ out ∨ -l ∈ r
  | [], out, h => by cases h
  | l :: r, out, h => by
    unfold cleanL at h
    split at h
    · rename_i hl
      exact ⟨l, .head _, .inl hl⟩
    · obtain ⟨x, h1, h2⟩ := cleanL_none r _ h
      rcases h2 with h2 | h2
      · by_cases hl : l ∈ out
        · rw [if_pos hl] at h2; exact ⟨x, .tail _ h1, .inl h2⟩
        · rw [if_neg hl] at h2
          rcases List.mem_append.1 h2 with h3 | h3
          · exact ⟨x, .tail _ h1, .inl h3⟩
          · exact ⟨x, .tail _ h1, .inr (by rw [List.mem_singleton.1 h3]; exact .head _)⟩
      · exact ⟨x, .tail _ h1, .inr (.tail _ h2)⟩
theorem clean_none {c : List Int} (h : cleanL c [] = none) : Taut c := by
  obtain ⟨l, h1, h2⟩ := cleanL_none c [] h
  exact ⟨l, h1, h2.elim (fun e => by cases e) id⟩
theorem clean_some {c own : List Int} (h : cleanL c [] = some own) : own.Nodup ∧ ∀ x, x ∈ own ↔ x ∈ c := by
  obtain ⟨h1, h2⟩ := cleanL_some c [] own (by simp) h
  exact ⟨h1, fun x => (h2 x).trans (by simp)⟩
end
end Go.Proofs.Ytcahhbcehnbdkaa.Sv

/- Walk of Refutes' closure that puts a clause in. -/
namespace Go.Proofs.Ytcahhbcehnbdkaa.Sv
open Go.RowKit Go.Proofs.YtcahhbcehnbdkaaW.PrintWords Go.Proofs.YtcahhbcehnbdkaaW.PrintLast Go.Proofs.Ytcahhbcehnbdkaa.Eng

/-- The search, and the two cells that the closure holds. -/
structure Box (w : World) (B g0 : Nat) (s : S) (V : Lay) (fb sb : Nat) (f : Bool) : Prop where
  srch : Srch w B g0 s V
  fc : w.cell? ⟨fb, 0, none⟩ = some (.bool f)
  fu : w.frozen? ⟨fb, 0, none⟩ = false
  sc : w.cell? ⟨sb, 0, none⟩ = some (.pointer (some ⟨g0, 0, none⟩))
  fne : ¬ foot g0 V fb
  sne : ¬ foot g0 V sb
  fs : fb ≠ sb
section
variable {w w' : World} {B g0 fb sb n : Nat} {s : S} {V : Lay} {f : Bool}
theorem Box.fr (h : Box w B g0 s V fb sb f) {F : Nat → Prop} (hf : Fr F w w') (hF : ∀ k, F k → ¬ foot g0 V k ∧ k ≠ fb ∧ k ≠ sb) : Box w' B g0 s V fb sb f :=
  ⟨h.srch.fr hf fun k hk => (hF k hk).1, hf.cell h.fc fun e => (hF _ e).2.1 rfl, hf.unfr h.fc h.fu fun e => (hF _ e).2.1 rfl, hf.cell h.sc fun e => (hF _ e).2.2 rfl, h.fne, h.sne, h.fs⟩
theorem Box.drew (h : Box w B g0 s V fb sb f) : Box w.drew B g0 s V fb sb f := h.fr (F := fun _ => False) (Fr.refl _ _).drew fun _ h => h.elim
theorem Box.flt (h : Box w B g0 s V fb sb f) : fb < w.heap.size := World.block_lt_of_cell? w _ h.fc
theorem Box.slt (h : Box w B g0 s V fb sb f) : sb < w.heap.size := World.block_lt_of_cell? w _ h.sc
theorem Own.drew {v : Value} {c : List Int} (h : Own w B g0 V v c) : Own w.drew B g0 V v c := h.goes (Goes.refl g0 V w).drew

theorem sortNil' (w : World) (c : Nat) (A : Option Addr) {cs L : Nat} (hL : L = 0) : Calls Try.prog 34 #[.slice A L c, cmpV cs] w fun e w' => e = .returned (.tuple #[]) ∧ w = w' := by
  subst hL; exact sortNil_calls w c A
theorem own_take {A : Option Addr} {m c k : Nat} {e : TypeId} {xs : List Value} (h : w.ownsRow B e 1 (.slice A m c) m xs) (hk : k ≤ m) : w.ownsRow B e 1 (.slice A k c) k (xs.take k) := by
  obtain ⟨h1, h2⟩ := h
  refine ⟨by rw [List.length_take, h1]; omega, ?_⟩
  rcases h2 with ⟨h3, h4⟩ | ⟨q, cap, cur, h3, h4, h5, h6, h7, h8, h9⟩
  · injection h3 with a b e
    subst a; subst e
    exact .inl ⟨by rw [show k = 0 by omega], by omega⟩
  · injection h3 with a b e
    subst a; subst e
    exact .inr ⟨q, c, cur, rfl, h4, h5, by omega, h7, h8, by rw [← h9, List.take_take]; congr 1; omega⟩
theorem cleanL_len : ∀ (r out own : List Int), cleanL r out = some own → own.length ≤ out.length + r.length
  | [], out, own, h => by
    unfold cleanL at h
    injection h with h
    subst h
    simp
  | l :: r, out, own, h => by
    unfold cleanL at h
    split at h
    · cases h
    · have := cleanL_len r _ own h
      split at this <;> simp at this ⊢ <;> omega
/-- What a call of put may have done. -/
def PutR (n : Nat) (s : S) (f : Bool) (c : List Int) (s' : S) (f' : Bool) : Prop :=
  (f = true ∧ s' = s ∧ f' = true) ∨ (f = false ∧ s' = s ∧ f' = false ∧ (Taut c ∨ ∃ l ∈ c, ofv s l = 1)) ∨
    (f = false ∧ ∃ own : List Int, own.Nodup ∧ (∀ x, x ∈ own ↔ x ∈ c) ∧ Sd (ofv s) own 0 own.length ∧ (∀ l ∈ own, ofv s l ≠ 1) ∧ s' = (putS n s own).1 ∧ f' = (putS n s own).2)

set_option maxHeartbeats 2000000 in
theorem put_calls {Φ : List (List Int)} {T : Nat} {v : Value} {c : List Int} (hb : Box w B g0 s V fb sb f) (hB : B ≤ w.heap.size) (hr : Row w B v c) (hc : ∀ l ∈ c, Lit n l ∧ l ≠ 0) (hlen : c.length < 1099511627776) (hn : n < 1099511627776) (hS : f = false → Still Φ s n T)
    (hT : T + 2 < 1099511627774) (hl : s.clauses.length + 1 < 1099511627776) :
    Calls Try.prog 31 #[v, .pointer (some ⟨fb, 0, none⟩), .pointer (some ⟨sb, 0, none⟩)] w fun e w' => e = .returned (.tuple #[]) ∧ ∃ s' V' f', Box w' B g0 s' V' fb sb f' ∧ PutR n s f c s' f' ∧ Fr (fun k => foot g0 V k ∨ k = fb) w w' ∧ ∀ k, foot g0 V' k → foot g0 V k ∨ w.heap.size ≤ k := by
  refine calls_of_FC (N := 66) (vs := [v, .pointer (some ⟨fb, 0, none⟩), .pointer (some ⟨sb, 0, none⟩)]) Try.func31 rfl Try.ntmps31 (Nat.le_of_ble_eq_true rfl) ?_
  refine FC.cut (σ := Bool × List Int × Value) (fun x => [(1, .pointer (some ⟨fb, 0, none⟩)), (2, .pointer (some ⟨sb, 0, none⟩)), (4, x.2.2), (5, .bool x.1)]) (fun x w2 => Fr (fun _ => False) w w2 ∧ ((cleanL c [] = none ∧ x.1 = false) ∨ (cleanL c [] = some x.2.1 ∧ x.1 = true ∧ w2.ownsRow w.heap.size 3 1 x.2.2 x.2.1.length (nums .i64 x.2.1)))) ?_ ?_
  · refine FC.region ?_
    refine mv_ rfl rfl rfl ?_
    refine FL.call rfl rfl (p_call Try.func32 rfl rfl rfl) (clean_calls hr (fun l hl => (hc l hl).1) hn hlen hB) ?_
    rintro e_ w_ ⟨f1, ⟨hcl, rfl⟩ | ⟨own, v', hcl, rfl, ho⟩⟩
    · refine ⟨_, rfl, ?_⟩
      refine mv_ rfl rfl rfl ?_
      refine FL.pur rfl rfl (p_extract rfl rfl) ?_
      refine FL.pur rfl rfl (p_extract rfl rfl) ?_
      refine sg_ rfl rfl rfl ?_
      refine sg_ rfl rfl rfl ?_
      refine FL.nil ?_
      exact ⟨(false, [], .slice none 0 0), ⟨rfl, rfl, rfl, rfl, trivial⟩, f1, .inl ⟨hcl, rfl⟩⟩
    · refine ⟨_, rfl, ?_⟩
      refine mv_ rfl rfl rfl ?_
      refine FL.pur rfl rfl (p_extract rfl rfl) ?_
      refine FL.pur rfl rfl (p_extract rfl rfl) ?_
      refine sg_ rfl rfl rfl ?_
      refine sg_ rfl rfl rfl ?_
      refine FL.nil ?_
      exact ⟨(true, own, v'), ⟨rfl, rfl, rfl, rfl, trivial⟩, f1, .inr ⟨hcl, rfl, ho⟩⟩
  rintro ⟨ok, own, v'⟩ w1 ⟨f1, hcl⟩
  simp only at hcl ⊢
  have hb1 : Box w1 B g0 s V fb sb f := hb.fr f1 fun _ h => h.elim
  have stay : ∀ {w2 : World}, Fr (fun k => w.heap.size ≤ k) w w2 → Fr (fun k => foot g0 V k ∨ k = fb) w w2 := fun hf => hf.mono fun k hk => .inr hk
  refine FC.seq ?_
  rcases hcl with ⟨hcl, rfl⟩ | ⟨hcl, rfl, ho⟩
  · refine FC.seq (FC.region ?_)
    refine mv_ rfl rfl rfl ?_
    refine FL.pur rfl rfl (p_not rfl) ?_
    refine mv_ rfl rfl rfl ?_
    refine FL.off rfl rfl ?_
    refine FL.pur rfl rfl (p_pick_t rfl rfl) ?_
    refine FL.nilK ?_
    refine FC.cond_t rfl ?_
    refine FC.ret ?_
    repeat with_reducible first | refine thn_ret ?_ | refine blk_ret ?_ | refine nog_ret ?_
    refine ret0 Try.results31 ⟨rfl, s, V, f, hb1, ?_, f1.mono fun _ h => h.elim, fun k hk => .inl hk⟩
    cases f with
    | true => exact .inl ⟨rfl, rfl, rfl⟩
    | false => exact .inr (.inl ⟨rfl, rfl, rfl, .inl (clean_none hcl)⟩)
  refine FC.seq (FC.region ?_)
  refine mv_ rfl rfl rfl ?_
  refine FL.pur rfl rfl (p_not rfl) ?_
  refine mv_ rfl rfl rfl ?_
  refine FL.val _ _ rfl rfl (p_load rfl Try.underlying4 rfl hb1.fc) ?_
  refine FL.pur rfl rfl (p_pick_f rfl rfl) ?_
  refine FL.nilK ?_
  refine FC.cond f rfl (fun hcc => ?_) (fun hcc => FC.skip (thn_normal ?_))
  · have hq : True := trivial
    refine FC.ret ?_
    repeat with_reducible first | refine thn_ret ?_ | refine blk_ret ?_ | refine nog_ret ?_
    exact ret0 Try.results31 ⟨rfl, s, V, f, hb1, .inl ⟨hcc, rfl, hcc⟩, f1.mono fun _ h => h.elim, fun k hk => .inl hk⟩
  subst hcc
  have hSt := hS rfl
  have hg := hSt.ok.good
  obtain ⟨hnd, hmem⟩ := clean_some hcl
  have hlit : ∀ l ∈ own, Lit n l ∧ l ≠ 0 := fun l hl => hc l ((hmem l).1 hl)
  have hw1 : ∀ k, w.heap.size ≤ k → ¬ foot g0 V k ∧ k ≠ fb ∧ k ≠ sb := fun k hk => ⟨fun hf => by have := hb.srch.lt hf; omega, by have := hb.flt; omega, by have := hb.slt; omega⟩
  have ho1 : Own w1 B g0 V v' own := ⟨ownsRow_base ho hB, fun k hk => (hw1 k (ho.lt k hk).1).1⟩
  have hvk : ∀ k, v'.ownBlock = some k → w.heap.size ≤ k := fun k hk => (ho.lt k hk).1
  obtain ⟨A, cap, rfl, hcap, hcm⟩ := ho1.slice
  have olen : own.length < 1099511627776 := by
    have := cleanL_len c [] own hcl
    simp only [List.length_nil] at this
    omega
  refine FC.cut (σ := Unit) (fun _ => [(1, .pointer (some ⟨fb, 0, none⟩)), (2, .pointer (some ⟨sb, 0, none⟩)), (4, .slice A own.length cap)]) (fun _ w2 => Box w2 B g0 s V fb sb false ∧ Own w2 B g0 V (.slice A own.length cap) own ∧ Fr (fun k => w.heap.size ≤ k) w w2 ∧ ∀ q, q < own.length → ofv s (g own q) ≠ 1) ?_ ?_
  · refine FC.seq (FC.region ?_)
    refine mv_ rfl rfl rfl ?_
    refine FL.pur rfl rfl (p_len rfl Try.underlying41) ?_
    refine mv_ rfl rfl rfl ?_
    refine FL.nilK ?_
    refine FC.block ?_
    refine FC.loop (σ := Nat) (fun x => [(1, .pointer (some ⟨fb, 0, none⟩)), (2, .pointer (some ⟨sb, 0, none⟩)), (4, .slice A own.length cap), (17, .slice A own.length cap), (18, .int .i64 own.length), (19, .int .i64 x)]) (fun x w2 => x ≤ own.length ∧ Box w2 B g0 s V fb sb false ∧ Own w2 B g0 V (.slice A own.length cap) own ∧ Fr (fun k => w.heap.size ≤ k) w w2 ∧ ∀ q, q < x → ofv s (g own q) ≠ 1)
      (fun x => own.length - x) 0 ⟨Nat.zero_le _, hb1, ho1, f1.mono (fun _ h => h.elim), fun q hq => absurd hq (Nat.not_lt_zero q)⟩ ⟨rfl, rfl, rfl, rfl, rfl, rfl, trivial⟩ ?_
    rintro i w2 ⟨hi, h2, o2, f2, hno⟩
    refine FC.seq (FC.region ?_)
    refine FL.pur rfl rfl (p_lss rfl rfl rfl) ?_
    refine FL.nilK ?_
    refine FC.seq ?_
    refine FC.cond (decide ((i : Int) < (own.length : Int))) rfl (fun hcc => FC.skip (thn_normal ?_)) (fun hcc => FC.exit ?_)
    rotate_left
    · have hge : ¬ (i : Int) < (own.length : Int) := of_decide_eq_false hcc
      exact thn_exit (thn_exit (blk_exit ⟨(), ⟨rfl, rfl, rfl, trivial⟩, h2, o2, f2, fun q hq => hno q (by omega)⟩))
    have hlt : i < own.length := by have := of_decide_eq_true hcc; omega
    obtain ⟨bd, cap', e, _, _⟩ := o2.form (by omega)
    injection e with e _ _
    subst e
    obtain ⟨hL, hz⟩ := hlit (g own i) (rd_mem own i (by omega) (by omega))
    obtain ⟨hL1, hL2⟩ := hL
    refine FC.seq ?_
    refine FC.block ?_
    refine FC.seq (FC.region ?_)
    refine mv_ rfl rfl rfl ?_
    refine sg_ rfl rfl rfl ?_
    refine FL.nilK ?_
    have h3 := h2.drew
    have o3 := o2.drew
    have hS3 := And.intro h3.srch (And.intro h3.sc (o3.cell rfl (i : Int) (by omega) (by omega)))
    have hof : ∀ W, (Srch W B g0 s V ∧ W.cell? ⟨sb, 0, none⟩ = some (.pointer (some ⟨g0, 0, none⟩)) ∧ W.cell? ⟨bd, (i : Int).toNat, none⟩ = some (.int .i64 (rd own (i : Int)))) → Calls Try.prog 33 #[.pointer (some ⟨g0, 0, none⟩), .int .i64 (rd own (i : Int))] W fun e w' => e = .returned (.int .i8 (ofv s (g own i))) ∧ W = w' := fun W hW =>
      of_calls hW.1 (g own i) (by rw [hg.value]; exact hL1) (by rw [hg.value]; exact hL2) hg.small
    refine FC.seq (FC.draw (fun w => Srch w B g0 s V ∧ w.cell? ⟨sb, 0, none⟩ = some (.pointer (some ⟨g0, 0, none⟩)) ∧ w.cell? ⟨bd, (i : Int).toNat, none⟩ = some (.int .i64 (rd own (i : Int)))) [] (bA 7 0) (by kernel_rfl) rfl rfl hS3 ?_)
    refine FA.pur (i := 1) (bA 7 2) rfl (by kernel_rfl) rfl rfl (p_move rfl) ?_
    refine FA.pur (i := 2) (bA 7 6) rfl (by kernel_rfl) rfl rfl (p_move rfl) ?_
    refine FA.pur (i := 3) (bA 7 14) rfl (by kernel_rfl) rfl rfl (idx41 rfl rfl (by omega) (by omega)) ?_
    refine FA.lod (i := 0) (bA 7 15) rfl (by kernel_rfl) rfl rfl hS3 (fun _ hs => p_load rfl Try.underlying49 rfl hs.2.1) ?_
    refine FA.lod (i := 4) (bA 7 31) rfl (by kernel_rfl) rfl rfl hS3 (fun _ hs => p_load rfl Try.underlying3 rfl hs.2.2) ?_
    refine FA.tell (i := 5) (bA 7 63) rfl (by kernel_rfl) rfl rfl hS3 (fun _ _ => p_call Try.func33 rfl rfl rfl) (fun _ hs => hof _ hs) ?_
    refine FA.pur (i := 6) (bA 7 127) rfl (by kernel_rfl) rfl rfl (p_eql rfl rfl rfl) ?_
    refine FA.doneK (by kernel_rfl) ?_
    have f3 : Fr (fun k => w.heap.size ≤ k) w w2.drew := f2.drew
    refine FC.cond (decide (ofv s (g own i) = 1)) rfl (fun hcc => ?_) (fun hcc => FC.skip ?_)
    · have h1 := of_decide_eq_true hcc
      refine FC.ret ?_
      repeat with_reducible first | refine thn_ret ?_ | refine blk_ret ?_ | refine nog_ret ?_
      exact ret0 Try.results31 ⟨rfl, s, V, false, h3, .inr (.inl ⟨rfl, rfl, rfl, .inr ⟨g own i, (hmem _).1 (rd_mem own i (by omega) (by omega)), h1⟩⟩), stay f3, fun k hk => .inl hk⟩
    · have h1 := of_decide_eq_false hcc
      refine blk_normal (thn_normal ?_)
      refine FC.region ?_
      refine FL.pur rfl rfl (p_add rfl rfl ((wr (by omega) (by omega)).trans (show (i : Int) + 1 = ((i + 1 : Nat) : Int) by omega))) ?_
      refine mv_ rfl rfl rfl ?_
      refine FL.nil ?_
      refine ⟨i + 1, ⟨rfl, rfl, rfl, rfl, rfl, rfl, trivial⟩, ⟨hlt, h3, o3, f3, fun q hq => ?_⟩, by show own.length - (i + 1) < own.length - i; omega⟩
      by_cases e : q = i
      · rw [e]; exact h1
      · exact hno q (by omega)
  rintro - w2 ⟨h2, o2, f2, hnoT⟩
  refine FC.cut (σ := List Int) (fun _ => [(1, .pointer (some ⟨fb, 0, none⟩)), (2, .pointer (some ⟨sb, 0, none⟩)), (4, .slice A own.length cap)]) (fun d w2 => Box w2 B g0 s V fb sb false ∧ Own w2 B g0 V (.slice A own.length cap) d ∧ Fr (fun k => w.heap.size ≤ k) w w2 ∧ d.Perm own ∧ Sd (ofv s) d 0 d.length) ?_ ?_
  · rcases Nat.eq_zero_or_pos own.length with h0 | h0
    · refine FC.region ?_
      refine mv_ rfl rfl rfl ?_
      refine FL.pur rfl rfl (p_func rfl) ?_
      refine FL.call rfl rfl (p_call Try.func34 rfl rfl rfl) (sortNil' (cs := sb) _ cap A h0) ?_
      rintro e_ w_ ⟨rfl, rfl⟩
      refine ⟨_, rfl, ?_⟩
      refine FL.nil ?_
      exact ⟨own, ⟨rfl, rfl, rfl, trivial⟩, h2, o2, f2, .refl _, by rw [h0]; exact fun i j _ _ h => absurd h (Nat.not_lt_zero j)⟩
    · obtain ⟨bd, cap', e, _, _⟩ := o2.form h0
      injection e with e _ _
      subst e
      have hon : On w2 B g0 s V sb bd n cap own.length own := ⟨⟨h2.srch, h2.sc, fun e => (hw1 bd (hvk bd rfl)).2.2 e.symm, o2.apart bd rfl, hg.value, hg.small⟩, ⟨o2.own⟩, rfl, fun l hl => (hlit l hl).1⟩
      refine FC.region ?_
      refine mv_ rfl rfl rfl ?_
      refine FL.pur rfl rfl (p_func rfl) ?_
      refine FL.call rfl rfl (p_call Try.func34 rfl rfl rfl) (sort_calls (by omega) hn hon) ?_
      rintro e_ w_ ⟨rfl, d, m1, s1, h3, f3⟩
      refine ⟨_, rfl, ?_⟩
      refine FL.nil ?_
      have hlen2 := m1.len
      refine ⟨d, ⟨rfl, rfl, rfl, trivial⟩, h2.fr f3 fun k hk => by rw [show k = bd from hk]; exact hw1 bd (hvk bd rfl), ⟨?_, o2.apart⟩, f2.trans f3 fun k hk => .inl (by rw [show k = bd from hk]; exact hvk bd rfl), m1.perm, by rw [hlen2]; exact s1⟩
      have := h3.row.own
      rw [hlen2] at this ⊢
      exact this
  rintro d w3 ⟨h3, o3, f3, hperm, hsd⟩
  have dlen : d.length = own.length := hperm.length_eq
  have hlitd : ∀ l ∈ d, Lit n l ∧ l ≠ 0 := fun l hl => hlit l (hperm.mem_iff.1 hl)
  obtain ⟨oL, hoL⟩ : ∃ oL, oL = if 1 < d.length ∧ ofv s (g d 1) = -1 then d.take 1 else d := ⟨_, rfl⟩
  have hofd : ∀ W, Srch W B g0 s V → ∀ l ∈ d, Calls Try.prog 33 #[.pointer (some ⟨g0, 0, none⟩), .int .i64 l] W fun e w' => e = .returned (.int .i8 (ofv s l)) ∧ W = w' := fun W hW l hl =>
    of_calls hW l (by rw [hg.value]; exact (hlitd l hl).1.1) (by rw [hg.value]; exact (hlitd l hl).1.2) hg.small
  refine FC.cut (σ := Unit) (fun _ => [(1, .pointer (some ⟨fb, 0, none⟩)), (2, .pointer (some ⟨sb, 0, none⟩)), (4, .slice A oL.length cap)]) (fun _ w2 => Box w2 B g0 s V fb sb false ∧ Own w2 B g0 V (.slice A oL.length cap) oL ∧ Fr (fun k => w.heap.size ≤ k) w w2) ?_ ?_
  · by_cases c1 : 1 < own.length
    · obtain ⟨bd, cap', e, _, _⟩ := o3.form (by omega)
      injection e with e _ _
      subst e
      have h4 := h3.drew
      have o4 := o3.drew
      have hS3 := And.intro h4.srch (And.intro h4.sc (o4.cell rfl (1 : Int) (by omega) (by omega)))
      refine FC.seq (FC.draw (fun w => Srch w B g0 s V ∧ w.cell? ⟨sb, 0, none⟩ = some (.pointer (some ⟨g0, 0, none⟩)) ∧ w.cell? ⟨bd, (1 : Int).toNat, none⟩ = some (.int .i64 (rd d (1 : Int)))) [] (bA 11 0) (by kernel_rfl) rfl rfl hS3 ?_)
      refine FA.pur (i := 0) (bA 11 1) rfl (by kernel_rfl) rfl rfl (p_move rfl) ?_
      refine FA.pur (i := 1) (bA 11 3) rfl (by kernel_rfl) rfl rfl (p_len rfl Try.underlying41) ?_
      refine FA.pur (i := 2) (bA 11 7) rfl (by kernel_rfl) rfl rfl (p_gtr rfl rfl (decide_eq_true (by omega))) ?_
      refine FA.pur (i := 3) (bA 11 15) rfl (by kernel_rfl) rfl rfl (p_move rfl) ?_
      refine FA.pur (i := 5) (bA 11 47) rfl (by kernel_rfl) rfl rfl (p_move rfl) ?_
      refine FA.pur (i := 6) (bA 11 111) rfl (by kernel_rfl) rfl rfl (idx41 rfl rfl (by omega) (by omega)) ?_
      refine FA.lod (i := 4) (bA 11 127) rfl (by kernel_rfl) rfl rfl hS3 (fun _ hs => p_load rfl Try.underlying49 rfl hs.2.1) ?_
      refine FA.lod (i := 7) (bA 11 255) rfl (by kernel_rfl) rfl rfl hS3 (fun _ hs => p_load rfl Try.underlying3 rfl hs.2.2) ?_
      refine FA.tell (i := 8) (bA 11 511) rfl (by kernel_rfl) rfl rfl hS3 (fun _ _ => p_call Try.func33 rfl rfl rfl) (fun _ hs => hofd _ hs.1 (rd d (1 : Int)) (rd_mem d 1 (by omega) (by omega))) ?_
      refine FA.pur (i := 9) (bA 11 1023) rfl (by kernel_rfl) rfl rfl (p_eql rfl rfl rfl) ?_
      refine FA.pur (i := 10) (bA 11 2047) rfl (by kernel_rfl) rfl rfl (p_pick_t rfl rfl) ?_
      refine FA.doneK (by kernel_rfl) ?_
      refine FC.cond (decide (ofv s (rd d (1 : Int)) = -1)) rfl (fun hcc => ?_) (fun hcc => FC.skip ?_)
      · rw [if_pos ⟨by omega, of_decide_eq_true hcc⟩] at hoL
        have e1 : oL.length = 1 := by rw [hoL, List.length_take]; omega
        refine FC.region ?_
        refine mv_ rfl rfl rfl ?_
        refine FL.pur rfl rfl (upto41 rfl rfl (by omega) (by omega)) ?_
        refine sg_ rfl rfl rfl ?_
        refine FL.nil ?_
        refine ⟨(), ⟨rfl, rfl, by rw [e1]; rfl, trivial⟩, h4, ⟨?_, fun k hk => o4.apart k hk⟩, f3.drew⟩
        have o4' := o4.own
        rw [dlen] at o4'
        have := own_take o4' (k := 1) (by omega)
        have e5 : nums .i64 oL = (nums .i64 d).take 1 := by rw [hoL]; simp [nums, List.map_take]
        rw [e1, e5]
        exact this
      · rw [if_neg (fun e => of_decide_eq_false hcc e.2)] at hoL
        subst hoL
        refine ⟨(), ⟨rfl, rfl, by rw [dlen]; rfl, trivial⟩, h4, by rw [dlen]; exact o4, f3.drew⟩
    · rw [if_neg (fun e => c1 (by omega))] at hoL
      subst hoL
      have h4 := h3.drew
      have o4 := o3.drew
      refine FC.seq (FC.draw (fun _ => True) [] (bA 11 0) (by kernel_rfl) rfl rfl trivial ?_)
      refine FA.pur (i := 0) (bA 11 1) rfl (by kernel_rfl) rfl rfl (p_move rfl) ?_
      refine FA.pur (i := 1) (bA 11 3) rfl (by kernel_rfl) rfl rfl (p_len rfl Try.underlying41) ?_
      refine FA.pur (i := 2) (bA 11 7) rfl (by kernel_rfl) rfl rfl (p_gtr rfl rfl (decide_eq_false (by omega))) ?_
      refine FA.pur (i := 3) (bA 11 15) rfl (by kernel_rfl) rfl rfl (p_move rfl) ?_
      refine FA.off (i := 4) (bA 11 31) rfl (by kernel_rfl) rfl rfl ?_
      refine FA.off (i := 5) (bA 11 63) rfl (by kernel_rfl) rfl rfl ?_
      refine FA.off (i := 6) (bA 11 127) rfl (by kernel_rfl) rfl rfl ?_
      refine FA.off (i := 7) (bA 11 255) rfl (by kernel_rfl) rfl rfl ?_
      refine FA.off (i := 8) (bA 11 511) rfl (by kernel_rfl) rfl rfl ?_
      refine FA.off (i := 9) (bA 11 1023) rfl (by kernel_rfl) rfl rfl ?_
      refine FA.pur (i := 10) (bA 11 2047) rfl (by kernel_rfl) rfl rfl (p_pick_f rfl rfl) ?_
      refine FA.doneK (by kernel_rfl) ?_
      refine FC.cond_f rfl (FC.skip ?_)
      exact ⟨(), ⟨rfl, rfl, by rw [dlen]; rfl, trivial⟩, h4, by rw [dlen]; exact o4, f3.drew⟩
  rintro - w4 ⟨h4, o4, f4⟩
  have hsub : ∀ l ∈ oL, l ∈ d := fun l hl => by
    rw [hoL] at hl
    split at hl
    · exact List.mem_of_mem_take hl
    · exact hl
  have hcut : cutL s d = if oL.length = 1 ∧ ofv s (g oL 0) = -1 then [] else oL := by rw [hoL]; rfl
  refine FC.cut (σ := Value) (fun x => [(1, .pointer (some ⟨fb, 0, none⟩)), (2, .pointer (some ⟨sb, 0, none⟩)), (4, x)]) (fun x w2 => Box w2 B g0 s V fb sb false ∧ Own w2 B g0 V x (cutL s d) ∧ Fr (fun k => w.heap.size ≤ k) w w2 ∧ ∀ k, x.ownBlock = some k → w.heap.size ≤ k) ?_ ?_
  · have hvk2 : ∀ k, (Value.slice A oL.length cap).ownBlock = some k → w.heap.size ≤ k := fun k hk => hvk k (by cases A <;> exact hk)
    by_cases c1 : oL.length = 1
    · obtain ⟨bd, cap', e, _, _⟩ := o4.form (by omega)
      injection e with e _ _
      subst e
      have h5 := h4.drew
      have o5 := o4.drew
      have hS3 := And.intro h5.srch (And.intro h5.sc (o5.cell rfl (0 : Int) (by omega) (by omega)))
      refine FC.seq (FC.draw (fun w => Srch w B g0 s V ∧ w.cell? ⟨sb, 0, none⟩ = some (.pointer (some ⟨g0, 0, none⟩)) ∧ w.cell? ⟨bd, (0 : Int).toNat, none⟩ = some (.int .i64 (rd oL (0 : Int)))) [] (bA 11 0) (by kernel_rfl) rfl rfl hS3 ?_)
      refine FA.pur (i := 0) (bA 11 1) rfl (by kernel_rfl) rfl rfl (p_move rfl) ?_
      refine FA.pur (i := 1) (bA 11 3) rfl (by kernel_rfl) rfl rfl (p_len rfl Try.underlying41) ?_
      refine FA.pur (i := 2) (bA 11 7) rfl (by kernel_rfl) rfl rfl (p_eql rfl rfl (decide_eq_true (by omega))) ?_
      refine FA.pur (i := 3) (bA 11 15) rfl (by kernel_rfl) rfl rfl (p_move rfl) ?_
      refine FA.pur (i := 5) (bA 11 47) rfl (by kernel_rfl) rfl rfl (p_move rfl) ?_
      refine FA.pur (i := 6) (bA 11 111) rfl (by kernel_rfl) rfl rfl (idx41 rfl rfl (by omega) (by omega)) ?_
      refine FA.lod (i := 4) (bA 11 127) rfl (by kernel_rfl) rfl rfl hS3 (fun _ hs => p_load rfl Try.underlying49 rfl hs.2.1) ?_
      refine FA.lod (i := 7) (bA 11 255) rfl (by kernel_rfl) rfl rfl hS3 (fun _ hs => p_load rfl Try.underlying3 rfl hs.2.2) ?_
      refine FA.tell (i := 8) (bA 11 511) rfl (by kernel_rfl) rfl rfl hS3 (fun _ _ => p_call Try.func33 rfl rfl rfl) (fun _ hs => hofd _ hs.1 (rd oL (0 : Int)) (hsub _ (rd_mem oL 0 (by omega) (by omega)))) ?_
      refine FA.pur (i := 9) (bA 11 1023) rfl (by kernel_rfl) rfl rfl (p_eql rfl rfl rfl) ?_
      refine FA.pur (i := 10) (bA 11 2047) rfl (by kernel_rfl) rfl rfl (p_pick_t rfl rfl) ?_
      refine FA.doneK (by kernel_rfl) ?_
      refine FC.cond (decide (ofv s (rd oL (0 : Int)) = -1)) rfl (fun hcc => ?_) (fun hcc => FC.skip ?_)
      · rw [if_pos ⟨c1, of_decide_eq_true hcc⟩] at hcut
        refine FC.region ?_
        refine sg_ rfl rfl rfl ?_
        refine FL.nil ?_
        exact ⟨.slice none 0 0, ⟨rfl, rfl, rfl, trivial⟩, h5, by rw [hcut]; exact ⟨World.ownsRow_nil _ _ _ _, fun k hk => by cases hk⟩, f4.drew, fun k hk => by cases hk⟩
      · rw [if_neg (fun e => of_decide_eq_false hcc e.2)] at hcut
        exact ⟨_, ⟨rfl, rfl, rfl, trivial⟩, h5, by rw [hcut]; exact o5, f4.drew, hvk2⟩
    · rw [if_neg (fun e => c1 e.1)] at hcut
      have h5 := h4.drew
      have o5 := o4.drew
      refine FC.seq (FC.draw (fun _ => True) [] (bA 11 0) (by kernel_rfl) rfl rfl trivial ?_)
      refine FA.pur (i := 0) (bA 11 1) rfl (by kernel_rfl) rfl rfl (p_move rfl) ?_
      refine FA.pur (i := 1) (bA 11 3) rfl (by kernel_rfl) rfl rfl (p_len rfl Try.underlying41) ?_
      refine FA.pur (i := 2) (bA 11 7) rfl (by kernel_rfl) rfl rfl (p_eql rfl rfl (decide_eq_false (by omega))) ?_
      refine FA.pur (i := 3) (bA 11 15) rfl (by kernel_rfl) rfl rfl (p_move rfl) ?_
      refine FA.off (i := 4) (bA 11 31) rfl (by kernel_rfl) rfl rfl ?_
      refine FA.off (i := 5) (bA 11 63) rfl (by kernel_rfl) rfl rfl ?_
      refine FA.off (i := 6) (bA 11 127) rfl (by kernel_rfl) rfl rfl ?_
      refine FA.off (i := 7) (bA 11 255) rfl (by kernel_rfl) rfl rfl ?_
      refine FA.off (i := 8) (bA 11 511) rfl (by kernel_rfl) rfl rfl ?_
      refine FA.off (i := 9) (bA 11 1023) rfl (by kernel_rfl) rfl rfl ?_
      refine FA.pur (i := 10) (bA 11 2047) rfl (by kernel_rfl) rfl rfl (p_pick_f rfl rfl) ?_
      refine FA.doneK (by kernel_rfl) ?_
      refine FC.cond_f rfl (FC.skip ?_)
      exact ⟨_, ⟨rfl, rfl, rfl, trivial⟩, h5, by rw [hcut]; exact o5, f4.drew, hvk2⟩
  rintro v4 w5 ⟨h5, o5, f5, hv4⟩
  have hnod : ∀ l ∈ d, ofv s l ≠ 1 := fun l hl => by
    obtain ⟨q, hq, e⟩ := List.mem_iff_getElem.1 (hperm.mem_iff.1 hl)
    have := hnoT q hq
    rwa [show g own q = l by simp [g, List.getD_eq_getElem?_getD, hq, e]] at this
  have hmemd : ∀ x, x ∈ d ↔ x ∈ c := fun x => hperm.mem_iff.trans (hmem x)
  obtain ⟨_, _, _, hgood⟩ := put_law hSt hT hl hc (hperm.nodup_iff.2 hnd) hmemd hsd hnod
  have hput : ∀ s' f', s' = (putS n s d).1 → f' = (putS n s d).2 → PutR n s false c s' f' := fun s' f' e1 e2 => .inr (.inr ⟨rfl, d, hperm.nodup_iff.2 hnd, hmemd, hsd, hnod, e1, e2⟩)
  have hcl2 : ∀ l ∈ cutL s d, Lit n l := fun l hl => by
    rw [hcut] at hl
    split at hl
    · cases hl
    · exact (hlitd l (hsub l hl)).1
  have hww : ∀ l ∈ s.watch, l.length < 1099511627774 := fun l hl => by
    obtain ⟨q, hq, rfl⟩ := List.mem_iff_getElem.1 hl
    have h6 := le_sum s.watch q
    rw [List.getD_eq_getElem?_getD, List.getElem?_eq_getElem hq] at h6
    have := hg.ws
    have := hg.tmax
    simp only [Option.getD_some] at h6
    omega
  have hfb := hb.flt
  have hsb := hb.slt
  -- the store at the end
  have fin : ∀ {w6 : World} {s' : S} {V' : Lay} (f' : Bool), Srch w6 B g0 s' V' → Fr (fun k => foot g0 V k ∨ v4.ownBlock = some k) w5 w6 → (∀ k, foot g0 V' k → foot g0 V k ∨ v4.ownBlock = some k ∨ w5.heap.size ≤ k) →
      w6.cell? ⟨fb, 0, none⟩ = some (.bool false) ∧ w6.frozen? ⟨fb, 0, none⟩ = false ∧ w6.cell? ⟨sb, 0, none⟩ = some (.pointer (some ⟨g0, 0, none⟩)) ∧
        (Box (w6.setCell ⟨fb, 0, none⟩ (.bool f')) B g0 s' V' fb sb f' ∧ Fr (fun k => foot g0 V k ∨ k = fb) w (w6.setCell ⟨fb, 0, none⟩ (.bool f')) ∧ ∀ k, foot g0 V' k → foot g0 V k ∨ w.heap.size ≤ k) := by
    intro w6 s' V' f' h6 f6 sub6
    have nX : ∀ k, k < w.heap.size → ¬ v4.ownBlock = some k := fun k hk e => by have := hv4 k e; omega
    have nF : ∀ k, k < w.heap.size → ¬ foot g0 V k → ¬ foot g0 V' k := fun k hk hn hf => by
      rcases sub6 k hf with h7 | h7 | h7
      · exact hn h7
      · exact nX k hk h7
      · have := f5.size; omega
    have cf := f6.cell h5.fc (fun e => e.elim h5.fne (nX fb hfb))
    have cs := f6.cell h5.sc (fun e => e.elim h5.sne (nX sb hsb))
    have uf := f6.unfr h5.fc h5.fu (fun e => e.elim h5.fne (nX fb hfb))
    have fs : Fr (fun k => k = fb) w6 (w6.setCell ⟨fb, 0, none⟩ (.bool f')) := ⟨rfl, rfl, rfl, by rw [setCell_size]; exact Nat.le_refl _, fun k _ hk => Below.heap_setCell w6 _ _ k hk⟩
    refine ⟨cf, uf, cs, ⟨h6.fr fs (fun k hk => by rw [show k = fb from hk]; exact nF fb hfb h5.fne), World.cell?_setCell_same' w6 _ _ (by rw [cf]; rfl), by rw [World.frozen?_setCell]; exact uf, fs.cell cs (fun e => hb.fs (show sb = fb from e).symm), nF fb hfb h5.fne, nF sb hsb h5.sne, hb.fs⟩, ?_, fun k hk => ?_⟩
    · exact ((stay f5).trans f6 (fun k hk => hk.elim (fun h => .inl (.inl h)) fun e => .inr (hv4 k e))).trans fs fun k hk => .inl (.inr hk)
    · rcases sub6 k hk with h7 | h7 | h7
      · exact .inl h7
      · exact .inr (hv4 k h7)
      · exact .inr (by have := f5.size; omega)
  cases hA : (addS s (cutL s d)).2 with
  | false =>
    have e : putS n s d = ((addS s (cutL s d)).1, true) := by unfold putS; rw [hA]; rfl
    have hadd := add_calls h5.srch hg.fine o5 hcl2 hww
    rw [hA] at hadd
    refine FC.region ?_
    refine FL.val _ _ rfl rfl (p_load rfl Try.underlying49 rfl h5.sc) ?_
    refine mv_ rfl rfl rfl ?_
    refine FL.call rfl rfl (p_call Try.func36 rfl rfl rfl) (hadd) ?_
    rintro e_ w_ ⟨rfl, V6, h6, G6⟩
    refine ⟨_, rfl, ?_⟩
    refine FL.pur rfl rfl (p_not rfl) ?_
    refine mv_ rfl rfl rfl ?_
    refine FL.off rfl rfl ?_
    refine FL.off rfl rfl ?_
    refine FL.off rfl rfl ?_
    refine FL.pur rfl rfl (p_pick_t rfl rfl) ?_
    obtain ⟨q1, q2, q3, q4, q5, q6⟩ := fin true h6 G6.fr G6.sub
    refine FL.sto _ rfl (st4 rfl rfl rfl q1 q2) ?_
    refine FL.nil ?_
    exact end0 Try.results31 ⟨rfl, _, V6, true, q4, hput _ _ (by rw [e]) (by rw [e]), q5, q6⟩
  | true =>
    have e : putS n s d = ((prop (n + 1 - (addS s (cutL s d)).1.head.toNat) (addS s (cutL s d)).1).1, decide (0 ≤ (prop (n + 1 - (addS s (cutL s d)).1.head.toNat) (addS s (cutL s d)).1).2)) := by unfold putS; rw [hA]; rfl
    have hadd := add_calls h5.srch hg.fine o5 hcl2 hww
    rw [hA] at hadd
    have hg2 := hgood hA
    refine FC.region ?_
    refine FL.val _ _ rfl rfl (p_load rfl Try.underlying49 rfl h5.sc) ?_
    refine mv_ rfl rfl rfl ?_
    refine FL.call rfl rfl (p_call Try.func36 rfl rfl rfl) (hadd) ?_
    rintro e_ w_ ⟨rfl, V6, h6, G6⟩
    refine ⟨_, rfl, ?_⟩
    refine FL.pur rfl rfl (p_not rfl) ?_
    refine mv_ rfl rfl rfl ?_
    refine FL.val _ _ rfl rfl (p_load rfl Try.underlying49 rfl (fin true h6 G6.fr G6.sub).2.2.1) ?_
    refine FL.call rfl rfl (p_call Try.func37 rfl rfl rfl) (propagate_calls h6 hg2) ?_
    rintro e_ w_ ⟨rfl, V7, h7, G7⟩
    refine ⟨_, rfl, ?_⟩
    refine FL.pur rfl rfl (p_geq rfl rfl rfl) ?_
    refine FL.pur rfl rfl (p_pick_f rfl rfl) ?_
    obtain ⟨q1, q2, q3, q4, q5, q6⟩ := fin (decide (0 ≤ (prop (n + 1 - (addS s (cutL s d)).1.head.toNat) (addS s (cutL s d)).1).2)) h7 (G6.trans G7).fr (G6.trans G7).sub
    refine FL.sto _ rfl (st4 rfl rfl rfl q1 q2) ?_
    refine FL.nil ?_
    exact end0 Try.results31 ⟨rfl, _, V7, _, q4, hput _ _ (by rw [e]) (by rw [e]), q5, q6⟩
end
end Go.Proofs.Ytcahhbcehnbdkaa.Sv

/- Propagation as a law: the start, and what a run of puts keeps. -/
namespace Go.Proofs.Ytcahhbcehnbdkaa.Sv
open Go.RowKit Go.Proofs.YtcahhbcehnbdkaaW.PrintWords

theorem getD_replicate {α : Type} (n i : Nat) (d : α) : (List.replicate n d).getD i d = d := by
  rw [List.getD_eq_getElem?_getD, List.getElem?_replicate]
  split <;> rfl
theorem zeros_replicate (n : Nat) : zeros (List.replicate n 0) = n := by simp [zeros]
theorem sum_nil (n : Nat) : ((List.replicate n ([] : List Int)).map List.length).sum = 0 := by
  induction n with
  | zero => rfl
  | succ n ih => simp [List.replicate_succ, ih]
theorem begin_still (m : Nat) (hm : m < 1073741824) {T : Nat} (hT : T < 1099511627774) : Still [] (beginS m) (m + 1) T where
  ok := {
    good := {
      value := by simp [beginS]
      level := by simp [beginS]
      reason := by simp [beginS]
      watch := by simp [beginS]
      small := fun x hx => by rw [List.eq_of_mem_replicate (show x ∈ List.replicate (m + 1) (0 : Int) from hx)]; omega
      nmax := by omega
      cls := by simp [beginS]
      cl := fun c hc => by cases hc
      wt := fun r hr i hi => by rw [List.eq_of_mem_replicate (show r ∈ List.replicate (2 * (m + 1)) ([] : List Int) from hr)] at hi; cases hi
      ws := by show ((List.replicate (2 * (m + 1)) ([] : List Int)).map List.length).sum ≤ T; rw [sum_nil]; omega
      tmax := hT
      tr := by show 0 + zeros (List.replicate (m + 1) 0) ≤ m + 1; rw [zeros_replicate]; omega
      trl := fun l hl => by cases hl
      hd0 := Int.le_refl _
      hd1 := Int.le_refl _
      nzc := fun c hc => by cases hc
      nzt := fun l hl => by cases hl
      tt := fun l hl => by cases hl }
    net := {
      has := fun j x y hj _ => absurd hj.1 (Nat.not_lt_zero j)
      only := fun q j hq hj => by
        have e : row (beginS m) q = [] := getD_replicate _ _ _
        rw [e] at hj; cases hj
      nd := fun q => by
        have e : row (beginS m) q = [] := getD_replicate _ _ _
        rw [e]; simp
      cnd := fun c hc => by cases hc }
    tnd := by simp [beginS]
    only := fun l hl hz hv => by
      rw [ofv_at] at hv
      have e : (beginS m).value.getD (av l).toNat 0 = 0 := getD_replicate _ _ _
      rw [e] at hv
      split at hv <;> omega
    sound := fun l hl => by cases hl
    src := fun j hj => absurd hj.1 (Nat.not_lt_zero j)
    kle := fun k hk => by cases hk
    wat := fun k hk => by cases hk }
  head := rfl
  pro := fun j x y hj => absurd hj.1 (Nat.not_lt_zero j)
  cov := fun c hc => by cases hc
  nz := fun c hc => by cases hc
  marks := rfl

/-- Where a run of puts stands: nothing is left to do, or a conflict is known. -/
def St (Φ : List (List Int)) (n T : Nat) (s : S) (f : Bool) : Prop := (f = false → Still Φ s n T) ∧ (f = true → Conf Φ fun _ => False)
theorem Conf.more {Φ Φ' : List (List Int)} {A A' : Int → Prop} (h : Conf Φ A) (hΦ : ∀ c ∈ Φ, c ∈ Φ') (hA : ∀ l, A l → A' l) : Conf Φ' A' := by
  obtain ⟨c, h1, h2⟩ := h
  exact ⟨c, hΦ c h1, fun m hm => (h2 m hm).mono hΦ hA⟩
theorem Still.room {Φ : List (List Int)} {s : S} {n T T' : Nat} (h : Still Φ s n T) (hT : T ≤ T') (hm : T' < 1099511627774) : Still Φ s n T' := { h with ok := h.ok.room hT hm }
theorem put_st {Φ : List (List Int)} {n T : Nat} {s s' : S} {f f' : Bool} {c : List Int} (h : St Φ n T s f) (hp : PutR n s f c s' f') (hT : T + 2 < 1099511627774) (hl : s.clauses.length + 1 < 1099511627776) (hc : ∀ l ∈ c, Lit n l ∧ l ≠ 0) :
    St (Φ ++ [c]) n (T + 2) s' f' ∧ s'.clauses.length ≤ s.clauses.length + 1 := by
  have hin : ∀ c' ∈ Φ, c' ∈ Φ ++ [c] := fun c' hc' => List.mem_append.2 (.inl hc')
  rcases hp with ⟨e1, rfl, e2⟩ | ⟨e1, rfl, e2, h3⟩ | ⟨e1, own, p1, p2, p3, p4, rfl, e2⟩
  · exact ⟨⟨fun e => (by rw [e2] at e; cases e), fun _ => (h.2 e1).more hin fun _ h => h⟩, by omega⟩
  · exact ⟨⟨fun _ => ((h.1 e1).skip hc h3).room (by omega) hT, fun e => (by rw [e2] at e; cases e)⟩, by omega⟩
  · obtain ⟨q1, q2, q3, _⟩ := put_law (h.1 e1) hT hl hc p1 p2 p3 p4
    exact ⟨⟨fun e => q1 (e2 ▸ e), fun e => q2 (e2 ▸ e)⟩, q3⟩
theorem Still.noconf {Φ : List (List Int)} {s : S} {n T : Nat} (h : Still Φ s n T) : ¬ Conf Φ fun _ => False := (closed_all h.ok h.pro h.cov h.nz fun _ h => h.elim).2
/-- Behind a conflict every clause follows. -/
theorem follows_of_conf {Φ : List (List Int)} (h : Conf Φ fun _ => False) (c : List Int) : Taut c ∨ Conf Φ fun l => -l ∈ c := .inr (h.more (fun _ h => h) fun _ h => h.elim)
end Go.Proofs.Ytcahhbcehnbdkaa.Sv

/- Levels and reasons as a law. -/
namespace Go.Proofs.Ytcahhbcehnbdkaa.Sv
open Go.RowKit Go.Proofs.YtcahhbcehnbdkaaW.PrintWords

/-- How many levels have begun at a place of the trail. -/
def lvl (ks : List Nat) (t : Nat) : Nat := (ks.filter (· ≤ t)).length
def levA (s : S) (x : Int) : Int := s.level.getD (av x).toNat 0
def reaA (s : S) (x : Int) : Int := s.reason.getD (av x).toNat 0
/-- The literal at a place follows from the clause that is its reason and what stands before it. -/
def Why (s : S) (t : Nat) (i : Int) : Prop := 0 ≤ i ∧ i.toNat < s.clauses.length ∧ g s.trail t ∈ cl s i ∧ ∀ m ∈ cl s i, m = g s.trail t ∨ -m ∈ s.trail.take t
structure Hist (s : S) (n : Nat) (ks : List Nat) : Prop where
  mks : s.marks = ks.map fun (k : Nat) => (k : Int)
  ord : ks.Pairwise (· < ·)
  lt : ∀ k ∈ ks, k < s.trail.length
  vlen : s.value.length = n
  llen : s.level.length = n
  rlen : s.reason.length = n
  tt : ∀ l ∈ s.trail, ofv s l = 1
  nz : ∀ l ∈ s.trail, l ≠ 0
  lit : ∀ l ∈ s.trail, Lit n l
  lev : ∀ t, t < s.trail.length → levA s (g s.trail t) = lvl ks t
  rea : ∀ t, t < s.trail.length → t ∉ ks → Why s t (reaA s (g s.trail t))
section
variable {s r : S} {n T : Nat} {ks : List Nat} {Φ : List (List Int)}
theorem g_mem {d : List Int} {t : Nat} (h : t < d.length) : g d t ∈ d := rd_mem d t (by omega) (by omega)
theorem g_append_left {a b : List Int} {t : Nat} (h : t < a.length) : g (a ++ b) t = g a t := by
  simp [g, List.getD_eq_getElem?_getD, List.getElem?_append_left h]
theorem g_append_last (a : List Int) (x : Int) : g (a ++ [x]) a.length = x := by simp [g]
theorem g_take {a : List Int} {k t : Nat} (h : t < k) : g (a.take k) t = g a t := by
  simp [g, List.getD_eq_getElem?_getD, List.getElem?_take, h]
theorem mem_take_iff {a : List Int} {k : Nat} {x : Int} : x ∈ a.take k ↔ ∃ t, t < k ∧ t < a.length ∧ g a t = x := by
  constructor
  · intro h
    obtain ⟨t, ht, e⟩ := List.mem_iff_getElem.1 h
    rw [List.length_take] at ht
    refine ⟨t, by omega, by omega, ?_⟩
    rw [List.getElem_take] at e
    rw [← e, g, List.getD_eq_getElem?_getD, List.getElem?_eq_getElem (by omega)]
    rfl
  · rintro ⟨t, h1, h2, rfl⟩
    refine List.mem_iff_getElem.2 ⟨t, by rw [List.length_take]; omega, ?_⟩
    rw [List.getElem_take, g, List.getD_eq_getElem?_getD, List.getElem?_eq_getElem h2]
    rfl
theorem mem_iff_g {a : List Int} {x : Int} : x ∈ a ↔ ∃ t, t < a.length ∧ g a t = x := by
  have := mem_take_iff (a := a) (k := a.length) (x := x)
  rw [List.take_length] at this
  rw [this]
  exact ⟨fun ⟨t, h1, _, h3⟩ => ⟨t, h1, h3⟩, fun ⟨t, h1, h3⟩ => ⟨t, h1, h1, h3⟩⟩
theorem lvl_le (ks : List Nat) (t : Nat) : lvl ks t ≤ ks.length := List.length_filter_le _ _
theorem lvl_all {t : Nat} (h : ∀ k ∈ ks, k ≤ t) : lvl ks t = ks.length := by
  unfold lvl
  rw [List.filter_eq_self.2 fun k hk => by simpa using h k hk]
theorem lvl_mono {t u : Nat} (h : t ≤ u) : lvl ks t ≤ lvl ks u := by
  unfold lvl
  induction ks with
  | nil => simp
  | cons k l ih =>
    simp only [List.filter_cons]
    by_cases h1 : k ≤ t
    · have h2 : k ≤ u := by omega
      simp [h1, h2, ih]
    · by_cases h2 : k ≤ u
      · simp [h1, h2]; omega
      · simp [h1, h2, ih]
theorem lvl_take {j t : Nat} (ho : ks.Pairwise (· < ·)) (hj : j < ks.length) (ht : t < ks.getD j 0) : lvl (ks.take j) t = lvl ks t := by
  unfold lvl
  have e : ks = ks.take j ++ ks.drop j := (List.take_append_drop j ks).symm
  conv => rhs; rw [e]
  rw [List.filter_append]
  have : (ks.drop j).filter (· ≤ t) = [] := by
    rw [List.filter_eq_nil_iff]
    intro k hk
    obtain ⟨q, hq, rfl⟩ := List.mem_iff_getElem.1 hk
    rw [List.length_drop] at hq
    rw [List.getElem_drop]
    rw [List.getD_eq_getElem?_getD, List.getElem?_eq_getElem hj] at ht
    simp only [Option.getD_some] at ht
    have : ks[j] ≤ ks[j + q] := by
      by_cases hq0 : q = 0
      · subst hq0; exact Nat.le_refl _
      · exact Nat.le_of_lt (List.pairwise_iff_getElem.1 ho j (j + q) hj (by omega) (by omega))
    simp only [decide_eq_true_eq]
    omega
  rw [this, List.append_nil]

theorem Why.same {t : Nat} {i : Int} (h : Why s t i) (ht : t < s.trail.length) {more : List Int} (hr : r.trail = s.trail ++ more) (hl : s.clauses.length ≤ r.clauses.length) (hm : ∀ x, x ∈ cl r i ↔ x ∈ cl s i) : Why r t i := by
  obtain ⟨h1, h2, h3, h4⟩ := h
  have e1 : g r.trail t = g s.trail t := by rw [hr, g_append_left ht]
  have e2 : r.trail.take t = s.trail.take t := by rw [hr, List.take_append_of_le_length (by omega)]
  refine ⟨h1, by omega, by rw [e1, hm]; exact h3, fun m hm' => ?_⟩
  rw [e1, e2]
  exact h4 m ((hm m).1 hm')
theorem cl_setCl' (s : S) (i j : Int) (c : List Int) (hi : i.toNat < s.clauses.length) : cl (setCl s i c) j = if j.toNat = i.toNat then c else cl s j := by
  unfold cl setCl
  simp only
  by_cases e : j.toNat = i.toNat
  · rw [if_pos e, e, getD_set_self hi]
  · rw [if_neg e, getD_set_other (Ne.symm e)]
theorem Hist.turn (h : Hist s n ks) {i : Int} {c : List Int} (hi : i.toNat < s.clauses.length) (hm : ∀ x, x ∈ c ↔ x ∈ cl s i) : Hist (setCl s i c) n ks :=
  have hw : ∀ t, t < s.trail.length → t ∉ ks → Why (setCl s i c) t (reaA s (g s.trail t)) := fun t ht hk => by
    refine (h.rea t ht hk).same ht (r := setCl s i c) (more := []) (by simp [setCl]) (by simp [setCl]) fun x => ?_
    rw [cl_setCl' s i _ c hi]
    split
    · rename_i e
      rw [hm]
      unfold cl
      rw [e]
    · exact Iff.rfl
  ⟨h.mks, h.ord, h.lt, h.vlen, h.llen, h.rlen, h.tt, h.nz, h.lit, h.lev, hw⟩
theorem setS_fields (s : S) (l i : Int) : (setS s l i).marks = s.marks ∧ (setS s l i).trail = s.trail ++ [l] ∧ (setS s l i).clauses = s.clauses := ⟨rfl, rfl, rfl⟩
/-- A literal is set: by its reason, or as a decision (then its place is a mark). -/
theorem Hist.setM (h : Hist s n ks) {l i : Int} {m : List Int} (hL : Lit n l) (hz : l ≠ 0) (h0 : ofv s l = 0) {ks' : List Nat} (hmk : m = ks'.map fun (k : Nat) => (k : Int)) (hord : ks'.Pairwise (· < ·)) (hlt : ∀ k ∈ ks', k ≤ s.trail.length) (hsame : ∀ t, t < s.trail.length → lvl ks' t = lvl ks t ∧ (t ∉ ks' → t ∉ ks))
    (hwhy : s.trail.length ∉ ks' → 0 ≤ i ∧ i.toNat < s.clauses.length ∧ l ∈ cl s i ∧ ∀ m ∈ cl s i, m = l ∨ -m ∈ s.trail) : Hist (setS { s with marks := m } l i) n ks' := by
  have hav : ∀ x ∈ s.trail, (av l).toNat ≠ (av x).toNat := fun x hx e => by
    rcases av_inj e with e | e
    · rw [e, h.tt x hx] at h0; omega
    · have := h.tt x hx
      rw [e, ofv_neg (h.nz x hx)] at h0
      omega
  have hlev : ∀ x ∈ s.trail, levA (setS { s with marks := m } l i) x = levA s x := fun x hx => getD_set_other (hav x hx)
  have hrea : ∀ x ∈ s.trail, reaA (setS { s with marks := m } l i) x = reaA s x := fun x hx => getD_set_other (hav x hx)
  have hlt2 := av_lt hL
  refine ⟨hmk, hord, fun k hk => ?_, by simp [setS, h.vlen], by simp [setS, h.llen], by simp [setS, h.rlen], fun x hx => ?_, fun x hx => ?_, fun x hx => ?_, fun t ht => ?_, fun t ht hk => ?_⟩
  · have := hlt k hk
    show k < (s.trail ++ [l]).length
    rw [List.length_append, List.length_singleton]; omega
  · rcases List.mem_append.1 (show x ∈ s.trail ++ [l] from hx) with hx | hx
    · rw [ofv_set_other (s := { s with marks := m }) (hav x hx)]; exact h.tt x hx
    · rw [List.mem_singleton.1 hx]
      exact ofv_set_self (s := { s with marks := m }) h.vlen hL
  · rcases List.mem_append.1 (show x ∈ s.trail ++ [l] from hx) with hx | hx
    · exact h.nz x hx
    · rw [List.mem_singleton.1 hx]; exact hz
  · rcases List.mem_append.1 (show x ∈ s.trail ++ [l] from hx) with hx | hx
    · exact h.lit x hx
    · rw [List.mem_singleton.1 hx]; exact hL
  · have ht' : t < (s.trail ++ [l]).length := ht
    rw [List.length_append, List.length_singleton] at ht'
    by_cases e : t < s.trail.length
    · show levA (setS { s with marks := m } l i) (g (s.trail ++ [l]) t) = _
      rw [g_append_left e, hlev _ (g_mem e), h.lev t e, (hsame t e).1]
    · have e : t = s.trail.length := by omega
      subst e
      show levA (setS { s with marks := m } l i) (g (s.trail ++ [l]) s.trail.length) = _
      rw [g_append_last]
      show (s.level.set (av l).toNat (m.length : Int)).getD (av l).toNat 0 = _
      rw [getD_set_self (by rw [h.llen]; exact hlt2), hmk, List.length_map, lvl_all hlt]
  · have ht' : t < (s.trail ++ [l]).length := ht
    rw [List.length_append, List.length_singleton] at ht'
    by_cases e : t < s.trail.length
    · show Why (setS { s with marks := m } l i) t (reaA (setS { s with marks := m } l i) (g (s.trail ++ [l]) t))
      rw [g_append_left e, hrea _ (g_mem e)]
      exact (h.rea t e ((hsame t e).2 hk)).same e (r := setS { s with marks := m } l i) (more := [l]) rfl (Nat.le_refl _) fun _ => Iff.rfl
    · have e : t = s.trail.length := by omega
      subst e
      obtain ⟨h1, h2, h3, h4⟩ := hwhy hk
      show Why (setS { s with marks := m } l i) s.trail.length (reaA (setS { s with marks := m } l i) (g (s.trail ++ [l]) s.trail.length))
      rw [g_append_last]
      have er : reaA (setS { s with marks := m } l i) l = i := by
        show (s.reason.set (av l).toNat i).getD (av l).toNat 0 = _
        rw [getD_set_self (by rw [h.rlen]; exact hlt2)]
      rw [er]
      refine ⟨h1, h2, ?_, fun q hm => ?_⟩
      · show g (s.trail ++ [l]) s.trail.length ∈ cl s i
        rw [g_append_last]; exact h3
      · show q = g (s.trail ++ [l]) s.trail.length ∨ -q ∈ (s.trail ++ [l]).take s.trail.length
        rw [g_append_last, List.take_append_of_le_length (Nat.le_refl _), List.take_length]
        exact h4 q hm
theorem Hist.set (h : Hist s n ks) {l i : Int} (hL : Lit n l) (hz : l ≠ 0) (h0 : ofv s l = 0) (hwhy : s.trail.length ∉ ks → 0 ≤ i ∧ i.toNat < s.clauses.length ∧ l ∈ cl s i ∧ ∀ m ∈ cl s i, m = l ∨ -m ∈ s.trail) : Hist (setS s l i) n ks :=
  h.setM (m := s.marks) hL hz h0 h.mks h.ord (fun k hk => Nat.le_of_lt (h.lt k hk)) (fun t ht => ⟨rfl, id⟩) hwhy
theorem Hist.steps (h : Hist s n ks) (k : Steps n s r) : Hist r n ks := by
  induction k with
  | refl => exact h
  | row q l _ ih => exact ⟨ih.mks, ih.ord, ih.lt, ih.vlen, ih.llen, ih.rlen, ih.tt, ih.nz, ih.lit, ih.lev, ih.rea⟩
  | push q x _ ih => exact ⟨ih.mks, ih.ord, ih.lt, ih.vlen, ih.llen, ih.rlen, ih.tt, ih.nz, ih.lit, ih.lev, ih.rea⟩
  | head k _ ih => exact ⟨ih.mks, ih.ord, ih.lt, ih.vlen, ih.llen, ih.rlen, ih.tt, ih.nz, ih.lit, ih.lev, ih.rea⟩
  | turn _ h1 h2 h3 ih => exact ih.turn h1 h3
  | unit _ h1 h2 h3 h4 h5 h6 h7 ih => exact ih.set h4 h5 h6 fun _ => ⟨h1, h2, h3, h7⟩
/-- Each clause of the search is one of Φ. -/
def Src (Φ : List (List Int)) (s : S) : Prop := ∀ j, j < s.clauses.length → ∃ c ∈ Φ, ∀ x, x ∈ c ↔ x ∈ cw s j
theorem Steps.len (k : Steps n s r) : r.clauses.length = s.clauses.length := by
  induction k with
  | refl => rfl
  | row q l _ ih => exact ih
  | push q x _ ih => exact ih
  | head k _ ih => exact ih
  | turn _ h1 h2 h3 ih => simpa [setCl] using ih
  | unit _ h1 h2 h3 h4 h5 h6 h7 ih => exact ih
theorem Src.steps (h : Src Φ s) (k : Steps n s r) : Src Φ r := by
  induction k with
  | refl => exact h
  | row q l _ ih => exact ih
  | push q x _ ih => exact ih
  | head k _ ih => exact ih
  | @turn r i c _ h1 h2 h3 ih =>
    intro j hj
    have hj : j < r.clauses.length := by simpa [setCl] using hj
    obtain ⟨d, d1, d2⟩ := ih j hj
    refine ⟨d, d1, fun x => (d2 x).trans ?_⟩
    rw [cw_setCl]
    by_cases e : j = i.toNat
    · rw [if_pos e, if_pos hj, h3, e]; exact Iff.rfl
    · rw [if_neg e]
  | unit _ h1 h2 h3 h4 h5 h6 h7 ih => exact ih
theorem Src.more {Φ' : List (List Int)} (h : Src Φ s) (hΦ : ∀ c ∈ Φ, c ∈ Φ') : Src Φ' s := fun j hj => by
  obtain ⟨c, h1, h2⟩ := h j hj
  exact ⟨c, hΦ c h1, h2⟩
theorem Src.snoc (h : Src Φ s) {c : List Int} (hc : ∃ d ∈ Φ, ∀ x, x ∈ d ↔ x ∈ c) (hr : r.clauses = s.clauses ++ [c]) : Src Φ r := fun j hj => by
  rw [hr, List.length_append, List.length_singleton] at hj
  have e : cw r j = if j = s.clauses.length then c else cw s j := by
    unfold cw
    rw [hr]
    by_cases e : j = s.clauses.length
    · subst e; simp
    · rw [if_neg e]
      simp [List.getD_eq_getElem?_getD, List.getElem?_append_left (show j < s.clauses.length by omega)]
  rw [e]
  split
  · exact hc
  · rename_i e
    exact h j (by omega)
/-- A clause more, at the end. -/
theorem Hist.more (h : Hist s n ks) {c : List Int} (e1 : r.clauses = s.clauses ++ [c]) (e2 : r.trail = s.trail) (e3 : r.marks = s.marks) (e4 : r.value = s.value) (e5 : r.level = s.level) (e6 : r.reason = s.reason) : Hist r n ks := by
  have ho : ∀ x, ofv r x = ofv s x := fun x => by unfold ofv; rw [e4]
  refine ⟨e3.trans h.mks, h.ord, by rw [e2]; exact h.lt, by rw [e4]; exact h.vlen, by rw [e5]; exact h.llen, by rw [e6]; exact h.rlen, fun l hl => by rw [ho]; exact h.tt l (e2 ▸ hl), by rw [e2]; exact h.nz, by rw [e2]; exact h.lit, fun t ht => ?_, fun t ht hk => ?_⟩
  · unfold levA; rw [e5, e2]; exact h.lev t (e2 ▸ ht)
  · have hw := h.rea t (e2 ▸ ht) hk
    have ht' : t < s.trail.length := e2 ▸ ht
    have : reaA r (g r.trail t) = reaA s (g s.trail t) := by unfold reaA; rw [e6, e2]
    rw [this]
    obtain ⟨w1, w2, w3, w4⟩ := hw
    refine Why.same ⟨w1, w2, w3, w4⟩ ht' (more := []) (by rw [e2]; simp) (by rw [e1]; simp) fun x => ?_
    unfold cl
    rw [e1, List.getD_eq_getElem?_getD, List.getD_eq_getElem?_getD, List.getElem?_append_left w2]
/-- Back to a level. -/
theorem Hist.back (h : Hist s n ks) {j : Nat} (hj : j < ks.length) (e2 : r.trail = s.trail.take (ks.getD j 0)) (e3 : r.marks = s.marks.take j) (e1 : r.clauses = s.clauses) (e4 : r.value.length = n) (e5 : r.level = s.level) (e6 : r.reason = s.reason) (htt : ∀ l ∈ r.trail, ofv r l = 1) : Hist r n (ks.take j) := by
  have hkm : ks.getD j 0 ∈ ks := mem_getD hj
  have hkl := h.lt _ hkm
  have hlen : r.trail.length = ks.getD j 0 := by rw [e2, List.length_take]; omega
  have hsub : ∀ x ∈ r.trail, x ∈ s.trail := fun x hx => by rw [e2] at hx; exact List.mem_of_mem_take hx
  have hg : ∀ t, t < r.trail.length → g r.trail t = g s.trail t := fun t ht => by rw [e2]; exact g_take (by omega)
  refine ⟨by rw [e3, h.mks, List.map_take], h.ord.sublist (List.take_sublist _ _), fun k hk => ?_, e4, by rw [e5]; exact h.llen, by rw [e6]; exact h.rlen, htt, fun l hl => h.nz l (hsub l hl), fun l hl => h.lit l (hsub l hl), fun t ht => ?_, fun t ht hk => ?_⟩
  · rw [hlen]
    obtain ⟨q, hq, rfl⟩ := List.mem_iff_getElem.1 hk
    rw [List.length_take] at hq
    rw [List.getElem_take, List.getD_eq_getElem?_getD, List.getElem?_eq_getElem hj]
    exact List.pairwise_iff_getElem.1 h.ord q j (by omega) hj (by omega)
  · have : levA r (g r.trail t) = levA s (g s.trail t) := by unfold levA; rw [e5, hg t ht]
    rw [this, h.lev t (by omega), lvl_take h.ord hj (by omega)]
  · have hk' : t ∉ ks := fun hm => by
      obtain ⟨q, hq, e⟩ := List.mem_iff_getElem.1 hm
      by_cases hqj : q < j
      · exact hk (List.mem_iff_getElem.2 ⟨q, by rw [List.length_take]; omega, by rw [List.getElem_take]; exact e⟩)
      · have : ks[j] ≤ ks[q] := by
          by_cases e2 : j = q
          · subst e2; exact Nat.le_refl _
          · exact Nat.le_of_lt (List.pairwise_iff_getElem.1 h.ord j q hj hq (by omega))
        rw [List.getD_eq_getElem?_getD, List.getElem?_eq_getElem hj] at hlen
        simp only [Option.getD_some] at hlen
        omega
    have : reaA r (g r.trail t) = reaA s (g s.trail t) := by unfold reaA; rw [e6, hg t ht]
    rw [this]
    obtain ⟨w1, w2, w3, w4⟩ := h.rea t (by omega) hk'
    have ecl : ∀ i, cl r i = cl s i := fun i => by unfold cl; rw [e1]
    refine ⟨w1, by rw [e1]; exact w2, by rw [ecl, hg t ht]; exact w3, fun m hm => ?_⟩
    rw [ecl] at hm
    rw [hg t ht, e2, List.take_take, Nat.min_eq_left (by omega)]
    exact w4 m hm
end
end Go.Proofs.Ytcahhbcehnbdkaa.Sv

/- What a conflict teaches, as a law. -/
namespace Go.Proofs.Ytcahhbcehnbdkaa.Sv
open Go.RowKit Go.Proofs.YtcahhbcehnbdkaaW.PrintWords

def sb (seen : List Bool) (x : Int) : Bool := seen.getD (av x).toNat false
theorem sb_neg (seen : List Bool) (x : Int) : sb seen (-x) = sb seen x := by unfold sb; rw [av_neg]
def Done (s : S) (seen : List Bool) (m : Int) : Prop := levA s m = 0 ∨ sb seen m = true
def cnt (p : Nat → Bool) (b : Nat) : Nat := ((List.range b).filter p).length
theorem cnt_succ (p : Nat → Bool) (b : Nat) : cnt p (b + 1) = cnt p b + if p b then 1 else 0 := by
  unfold cnt
  rw [List.range_succ, List.filter_append, List.length_append]
  congr 1
  by_cases h : p b <;> simp [h]
theorem cnt_congr {p q : Nat → Bool} : ∀ {b : Nat}, (∀ t, t < b → p t = q t) → cnt p b = cnt q b
  | 0, _ => rfl
  | b + 1, h => by rw [cnt_succ, cnt_succ, cnt_congr fun t ht => h t (by omega), h b (by omega)]
theorem cnt_add {p q : Nat → Bool} {t0 : Nat} (h0 : p t0 = false) : ∀ {b : Nat}, t0 < b → (∀ t, t < b → q t = (p t || t == t0)) → cnt q b = cnt p b + 1
  | 0, h, _ => by omega
  | b + 1, h, hq => by
    rw [cnt_succ, cnt_succ, hq b (by omega)]
    by_cases e : b = t0
    · subst e
      have : cnt q b = cnt p b := cnt_congr fun t ht => by
        rw [hq t (by omega)]
        have : (t == b) = false := by simp; omega
        rw [this, Bool.or_false]
      rw [this, h0]
      simp
    · have : (b == t0) = false := by simpa using e
      rw [this, Bool.or_false, cnt_add h0 (by omega) fun t ht => hq t (by omega)]
      omega
theorem cnt_pos {p : Nat → Bool} : ∀ {b : Nat}, 0 < cnt p b → ∃ t, t < b ∧ p t = true
  | 0, h => by simp [cnt] at h
  | b + 1, h => by
    rw [cnt_succ] at h
    by_cases e : p b = true
    · exact ⟨b, by omega, e⟩
    · rw [if_neg e] at h
      obtain ⟨t, h1, h2⟩ := cnt_pos (b := b) (by omega)
      exact ⟨t, by omega, h2⟩
theorem cnt_one {p : Nat → Bool} {t : Nat} (hp : p t = true) : ∀ {b : Nat}, t < b → 0 < cnt p b
  | 0, h => by omega
  | b + 1, h => by
    rw [cnt_succ]
    by_cases e : t = b
    · subst e; rw [if_pos hp]; omega
    · have := cnt_one hp (b := b) (by omega)
      omega
theorem cnt_le (p : Nat → Bool) (b : Nat) : cnt p b ≤ b := by
  unfold cnt
  have := List.length_filter_le p (List.range b)
  simpa using this

/-- Where the last level begins. -/
def kLast (ks : List Nat) : Nat := ks.getD (ks.length - 1) 0
section
variable {s : S} {n T : Nat} {ks : List Nat} {Φ : List (List Int)} {A : Int → Prop} {i0 : Int}
theorem kLast_mem (h : 0 < ks.length) : kLast ks ∈ ks := mem_getD (by omega)
theorem kLast_max (h : Hist s n ks) {k : Nat} (hk : k ∈ ks) : k ≤ kLast ks := by
  obtain ⟨q, hq, rfl⟩ := List.mem_iff_getElem.1 hk
  unfold kLast
  rw [List.getD_eq_getElem?_getD, List.getElem?_eq_getElem (by omega)]
  simp only [Option.getD_some]
  by_cases e : q = ks.length - 1
  · subst e; exact Nat.le_refl _
  · exact Nat.le_of_lt (List.pairwise_iff_getElem.1 h.ord q (ks.length - 1) hq (by omega) (by omega))
theorem lvl_last (h : Hist s n ks) (h0 : 0 < ks.length) (t : Nat) : lvl ks t = ks.length ↔ kLast ks ≤ t := by
  constructor
  · intro e
    have : ks.filter (· ≤ t) = ks := List.filter_sublist.eq_of_length e
    have hm : kLast ks ∈ ks.filter (· ≤ t) := by rw [this]; exact kLast_mem h0
    simpa using (List.mem_filter.1 hm).2
  · intro e
    exact lvl_all fun k hk => Nat.le_trans (kLast_max h hk) e
theorem levA_neg (x : Int) : levA s (-x) = levA s x := by unfold levA; rw [av_neg]
theorem Hist.inj (h : Hist s n ks) (htn : (s.trail.map av).Nodup) {t u : Nat} (ht : t < s.trail.length) (hu : u < s.trail.length) (e : (av (g s.trail t)).toNat = (av (g s.trail u)).toNat) : t = u := by
  have e2 : av (g s.trail t) = av (g s.trail u) := by unfold av at e ⊢; omega
  have e3 : ∀ q, q < s.trail.length → ∃ hq : q < (s.trail.map av).length, (s.trail.map av)[q] = av (g s.trail q) := fun q hq => ⟨by simpa using hq, by simp [g, List.getElem?_eq_getElem hq]⟩
  obtain ⟨a1, a2⟩ := e3 t ht
  obtain ⟨b1, b2⟩ := e3 u hu
  have hp := List.pairwise_iff_getElem.1 htn
  rcases Nat.lt_trichotomy t u with c | c | c
  · exact absurd (a2.trans (e2.trans b2.symm)) (hp t u a1 b1 c)
  · exact c
  · exact absurd (b2.trans (e2.symm.trans a2.symm)) (hp u t b1 a1 c)

/-- What is true while the learned clause is gathered: what stands at b and behind is worked off, but for the clause cur. -/
structure J (s : S) (n : Nat) (ks : List Nat) (i0 : Int) (b : Nat) (cur : List Int) (seen : List Bool) (ls : List Int) (op bk : Int) : Prop where
  len : seen.length = n
  hi : b ≤ s.trail.length
  s1 : ∀ t, t < s.trail.length → sb seen (g s.trail t) = true → 1 ≤ lvl ks t ∧ (lvl ks t < ks.length → -(g s.trail t) ∈ ls)
  s2 : ∀ l ∈ ls, ∃ t, t < s.trail.length ∧ g s.trail t = -l ∧ sb seen l = true ∧ 1 ≤ lvl ks t ∧ lvl ks t < ks.length
  nd : ls.Nodup
  op : op = cnt (fun t => decide (kLast ks ≤ t) && sb seen (g s.trail t)) b
  bk0 : 0 ≤ bk
  bk1 : ∀ l ∈ ls, levA s l ≤ bk
  bk2 : (ls = [] ∧ bk = 0) ∨ ∃ l ∈ ls, levA s l = bk
  ex : ∀ t, b ≤ t → t < s.trail.length → kLast ks ≤ t → sb seen (g s.trail t) = true → t ∉ ks ∧ (cl s (reaA s (g s.trail t)) = cur ∨ ∀ m ∈ cl s (reaA s (g s.trail t)), Done s seen m)
  k0 : cl s i0 = cur ∨ ∀ m ∈ cl s i0, Done s seen m
  hc : ∀ m ∈ cur, Done s seen m ∨ -m ∈ s.trail.take b
theorem sb_replicate (x : Int) : sb (List.replicate n false) x = false := by
  unfold sb
  rw [List.getD_eq_getElem?_getD, List.getElem?_replicate]
  split <;> rfl
theorem J.start (h : Clash s i0) : J s n ks i0 s.trail.length (cl s i0) (List.replicate n false) [] 0 0 := by
  have hsb := fun x => sb_replicate (n := n) x
  refine ⟨by simp, Nat.le_refl _, fun t _ h => ?_, by simp, List.nodup_nil, ?_, Int.le_refl _, by simp, .inl ⟨rfl, rfl⟩, fun t h1 h2 => by omega, .inl rfl, fun m hm => .inr ?_⟩
  · rw [hsb] at h; cases h
  · have : cnt (fun t => decide (kLast ks ≤ t) && sb (List.replicate n false) (g s.trail t)) s.trail.length = cnt (fun _ => false) s.trail.length := cnt_congr fun t _ => by rw [hsb, Bool.and_false]
    rw [this]
    unfold cnt
    rw [List.filter_eq_nil_iff.2 (by simp)]
    rfl
  · rw [List.take_length]; exact h.2 m hm
theorem Done.mono {seen seen' : List Bool} (h : ∀ x, sb seen x = true → sb seen' x = true) {m : Int} (hd : Done s seen m) : Done s seen' m := hd.imp id (h m)
theorem sb_set {seen : List Bool} {l x : Int} (hl : (av l).toNat < seen.length) : sb (seen.set (av l).toNat true) x = (sb seen x || decide ((av l).toNat = (av x).toNat)) := by
  unfold sb
  by_cases e : (av l).toNat = (av x).toNat
  · rw [← e, getD_set_self hl]; simp
  · rw [getD_set_other e]; simp [e]
/-- One literal more is looked at. -/
theorem J.take {b : Nat} {cur ls : List Int} {seen : List Bool} {op bk : Int} (h : J s n ks i0 b cur seen ls op bk) (hh : Hist s n ks) (htn : (s.trail.map av).Nodup) (h0 : 0 < ks.length) {l : Int} (hlc : l ∈ cur) (hns : sb seen l = false) (hlev : levA s l ≠ 0) (hL : Lit n l) (hz : l ≠ 0) :
    (levA s l = ks.length → J s n ks i0 b cur (seen.set (av l).toNat true) ls (op + 1) bk) ∧ (levA s l ≠ ks.length → J s n ks i0 b cur (seen.set (av l).toNat true) (ls ++ [l]) op (max bk (levA s l))) ∧ ofv s l = -1 := by
  have hlt : (av l).toNat < seen.length := by rw [h.len]; exact av_lt hL
  have hS := fun x => sb_set (seen := seen) (l := l) (x := x) hlt
  have hmono : ∀ x, sb seen x = true → sb (seen.set (av l).toNat true) x = true := fun x hx => by rw [hS, hx, Bool.true_or]
  obtain ⟨t0, q1, q2, q3⟩ : ∃ t0, t0 < b ∧ t0 < s.trail.length ∧ g s.trail t0 = -l := by
    rcases h.hc l hlc with hd | hd
    · rcases hd with hd | hd
      · exact absurd hd hlev
      · rw [hns] at hd; cases hd
    · exact mem_take_iff.1 hd
  have hat : ∀ t, t < s.trail.length → sb (seen.set (av l).toNat true) (g s.trail t) = (sb seen (g s.trail t) || t == t0) := fun t ht => by
    rw [hS]
    congr 1
    by_cases e : t = t0
    · subst e
      rw [q3, av_neg]; simp
    · have : ¬ (av l).toNat = (av (g s.trail t)).toNat := fun e2 => e (hh.inj htn ht q2 (by rw [← e2, q3, av_neg]))
      simp [this, e]
  have hl0 : levA s l = lvl ks t0 := by rw [← levA_neg, ← q3]; exact hh.lev t0 q2
  have hns0 : sb seen (g s.trail t0) = false := by rw [q3, sb_neg]; exact hns
  have hof : ofv s l = -1 := by
    have := hh.tt (-l) (by rw [← q3]; exact g_mem q2)
    rw [ofv_neg hz] at this; omega
  have hex : ∀ t, b ≤ t → t < s.trail.length → kLast ks ≤ t → sb (seen.set (av l).toNat true) (g s.trail t) = true → t ∉ ks ∧ (cl s (reaA s (g s.trail t)) = cur ∨ ∀ m ∈ cl s (reaA s (g s.trail t)), Done s (seen.set (av l).toNat true) m) := fun t h1 h2 h3 h4 => by
    rw [hat t h2] at h4
    have hne : (t == t0) = false := by simp; omega
    rw [hne, Bool.or_false] at h4
    obtain ⟨p, q⟩ := h.ex t h1 h2 h3 h4
    exact ⟨p, q.imp id fun hd m hm => (hd m hm).mono hmono⟩
  have hk0 := h.k0.imp id fun hd m hm => (hd m hm).mono hmono
  have hhc : ∀ m ∈ cur, Done s (seen.set (av l).toNat true) m ∨ -m ∈ s.trail.take b := fun m hm => (h.hc m hm).imp (fun hd => hd.mono hmono) id
  have hn0 : l ∉ ls := fun hm => by
    obtain ⟨_, _, _, e, _⟩ := h.s2 l hm
    rw [hns] at e; cases e
  refine ⟨fun e => ⟨by simp [h.len], h.hi, fun t ht hs => ?_, fun x hx => ?_, h.nd, ?_, h.bk0, h.bk1, h.bk2, hex, hk0, hhc⟩, fun e => ⟨by simp [h.len], h.hi, fun t ht hs => ?_, fun x hx => ?_, ?_, ?_, ?_, fun x hx => ?_, .inr ?_, hex, hk0, hhc⟩, hof⟩
  · rw [hat t ht] at hs
    rcases Bool.or_eq_true _ _ |>.mp hs with hs | hs
    · exact h.s1 t ht hs
    · have : t = t0 := by simpa using hs
      subst this
      exact ⟨by omega, fun hlt => by omega⟩
  · obtain ⟨t, a1, a2, a3, a4⟩ := h.s2 x hx
    exact ⟨t, a1, a2, hmono x a3, a4⟩
  · rw [h.op]
    have hk : kLast ks ≤ t0 := (lvl_last hh h0 t0).1 (by omega)
    have := cnt_add (p := fun t => decide (kLast ks ≤ t) && sb seen (g s.trail t)) (q := fun t => decide (kLast ks ≤ t) && sb (seen.set (av l).toNat true) (g s.trail t)) (t0 := t0) (by simp [hns0]) (b := b) q1 fun t ht => by
      have hb := h.hi
      rw [hat t (by omega)]
      by_cases e : t = t0
      · subst e; simp [hk]
      · have : (t == t0) = false := by simpa using e
        rw [this, Bool.or_false, Bool.or_false]
    omega
  · rw [hat t ht] at hs
    rcases Bool.or_eq_true _ _ |>.mp hs with hs | hs
    · obtain ⟨a, c⟩ := h.s1 t ht hs
      exact ⟨a, fun hlt => List.mem_append_left _ (c hlt)⟩
    · have : t = t0 := by simpa using hs
      subst this
      exact ⟨by omega, fun _ => by rw [q3, Int.neg_neg]; simp⟩
  · rcases List.mem_append.1 hx with hx | hx
    · obtain ⟨t, a1, a2, a3, a4⟩ := h.s2 x hx
      exact ⟨t, a1, a2, hmono x a3, a4⟩
    · rw [List.mem_singleton.1 hx]
      have := lvl_le ks t0
      exact ⟨t0, q2, q3, by rw [hS]; simp, by omega, by omega⟩
  · rw [List.nodup_append]
    refine ⟨h.nd, by simp, fun a ha b hb => ?_⟩
    rw [List.mem_singleton.1 hb]
    exact fun e => hn0 (e ▸ ha)
  · rw [h.op]
    have hk : ¬ kLast ks ≤ t0 := fun hk => e (by have := (lvl_last hh h0 t0).2 hk; omega)
    have : cnt (fun t => decide (kLast ks ≤ t) && sb (seen.set (av l).toNat true) (g s.trail t)) b = cnt (fun t => decide (kLast ks ≤ t) && sb seen (g s.trail t)) b := cnt_congr fun t ht => by
      have hb := h.hi
      rw [hat t (by omega)]
      by_cases e : t = t0
      · subst e; simp [hk]
      · have : (t == t0) = false := by simpa using e
        rw [this, Bool.or_false]
    rw [this]
  · have := h.bk0; omega
  · rcases List.mem_append.1 hx with hx | hx
    · have := h.bk1 x hx; omega
    · rw [List.mem_singleton.1 hx]; omega
  · have hb0 := h.bk0
    by_cases e2 : bk ≤ levA s l
    · exact ⟨l, by simp, by omega⟩
    · rcases h.bk2 with ⟨e3, e4⟩ | ⟨x, hx, e3⟩
      · omega
      · exact ⟨x, List.mem_append_left _ hx, by omega⟩
/-- The whole clause is worked off. -/
theorem J.fin {b : Nat} {cur ls : List Int} {seen : List Bool} {op bk : Int} (h : J s n ks i0 b cur seen ls op bk) (hd : ∀ m ∈ cur, Done s seen m) : J s n ks i0 b [] seen ls op bk :=
  { h with
    ex := fun t h1 h2 h3 h4 => by
      obtain ⟨p, q⟩ := h.ex t h1 h2 h3 h4
      exact ⟨p, .inr (q.elim (fun e m hm => hd m (e ▸ hm)) id)⟩
    k0 := .inr (h.k0.elim (fun e m hm => hd m (e ▸ hm)) id)
    hc := fun m hm => by cases hm }
/-- A place that wasn't seen is passed. -/
theorem J.pass {b : Nat} {ls : List Int} {seen : List Bool} {op bk : Int} (h : J s n ks i0 (b + 1) [] seen ls op bk) (hns : sb seen (g s.trail b) = false) : J s n ks i0 b [] seen ls op bk :=
  { h with
    hi := by have := h.hi; omega
    op := by
      rw [h.op, cnt_succ]
      simp [hns]
    ex := fun t h1 h2 h3 h4 => by
      by_cases e : t = b
      · subst e; rw [hns] at h4; cases h4
      · exact h.ex t (by omega) h2 h3 h4
    hc := fun m hm => by cases hm }
/-- A seen place is taken off; its reason is next. -/
theorem J.pop {b : Nat} {ls : List Int} {seen : List Bool} {op bk : Int} (h : J s n ks i0 (b + 1) [] seen ls op bk) (hh : Hist s n ks) (h0 : 0 < ks.length) (hs : sb seen (g s.trail b) = true) (hk : kLast ks ≤ b) (hop : op - 1 ≠ 0) : b ∉ ks ∧ Why s b (reaA s (g s.trail b)) ∧ J s n ks i0 b (cl s (reaA s (g s.trail b))) seen ls (op - 1) bk ∧ 1 ≤ op - 1 := by
  have hb := h.hi
  have hop' := h.op
  rw [cnt_succ, if_pos (by simp [hs, hk])] at hop'
  obtain ⟨t, t1, t2⟩ := cnt_pos (p := fun t => decide (kLast ks ≤ t) && sb seen (g s.trail t)) (b := b) (by omega)
  simp only [Bool.and_eq_true, decide_eq_true_eq] at t2
  have hbk : b ∉ ks := fun hm => by have := kLast_max hh hm; omega
  have hw := hh.rea b (by omega) hbk
  refine ⟨hbk, hw, ?_, by omega⟩
  refine { h with hi := by omega, op := by omega, ex := fun t h1 h2 h3 h4 => ?_, k0 := ?_, hc := fun m hm => ?_ }
  · by_cases e : t = b
    · subst e; exact ⟨hbk, .inl rfl⟩
    · obtain ⟨p, q⟩ := h.ex t (by omega) h2 h3 h4
      exact ⟨p, .inr (q.elim (fun e m hm => by rw [e] at hm; cases hm) id)⟩
  · exact .inr (h.k0.elim (fun e m hm => by rw [e] at hm; cases hm) id)
  · rcases hw.2.2.2 m hm with e | e
    · rw [e]; exact .inl (.inr hs)
    · exact .inr e

/-- What is learned. -/
structure Lrn (s : S) (n : Nat) (ks : List Nat) (Φ : List (List Int)) (tp : Nat) (ls : List Int) (bk : Int) : Prop where
  tl : tp < s.trail.length
  kl : kLast ks ≤ tp
  nd : (-(g s.trail tp) :: ls).Nodup
  lit : ∀ l ∈ -(g s.trail tp) :: ls, Lit n l ∧ l ≠ 0
  low : ∀ l ∈ ls, -l ∈ s.trail ∧ 1 ≤ levA s l ∧ levA s l < ks.length ∧ levA s l ≤ bk
  bk : (ls = [] ∧ bk = 0) ∨ ∃ l ∈ ls, levA s l = bk
  conf : Conf Φ fun x => -x ∈ -(g s.trail tp) :: ls
theorem J.done {b : Nat} {ls : List Int} {seen : List Bool} {op bk : Int} (h : J s n ks i0 (b + 1) [] seen ls op bk) (hh : Hist s n ks) (h0 : 0 < ks.length) (hs : sb seen (g s.trail b) = true) (hk : kLast ks ≤ b) (hop : op - 1 = 0) (hsrc : Src Φ s) (hcl : Clash s i0) : Lrn s n ks Φ b ls bk := by
  have hb := h.hi
  have hop' := h.op
  rw [cnt_succ, if_pos (by simp [hs, hk])] at hop'
  have hno : ∀ t, t < b → kLast ks ≤ t → sb seen (g s.trail t) = false := fun t ht hkt => by
    cases e : sb seen (g s.trail t) with
    | false => rfl
    | true =>
      have := cnt_one (p := fun t => decide (kLast ks ≤ t) && sb seen (g s.trail t)) (t := t) (by simp [hkt, e]) (b := b) ht
      omega
  have hlow : ∀ l ∈ ls, -l ∈ s.trail ∧ 1 ≤ levA s l ∧ levA s l < ks.length ∧ levA s l ≤ bk := fun l hl => by
    obtain ⟨t, a1, a2, a3, a4, a5⟩ := h.s2 l hl
    have : levA s l = lvl ks t := by rw [← levA_neg, ← a2]; exact hh.lev t a1
    exact ⟨by rw [← a2]; exact g_mem a1, by omega, by omega, h.bk1 l hl⟩
  have hex : ∀ t, b < t → t < s.trail.length → sb seen (g s.trail t) = true → t ∉ ks ∧ ∀ m ∈ cl s (reaA s (g s.trail t)), Done s seen m := fun t h1 h2 h3 => by
    obtain ⟨p, q⟩ := h.ex t (by omega) h2 (by omega) h3
    exact ⟨p, q.elim (fun e m hm => by rw [e] at hm; cases hm) id⟩
  have hk0 : ∀ m ∈ cl s i0, Done s seen m := h.k0.elim (fun e m hm => by rw [e] at hm; cases hm) id
  obtain ⟨N, hN⟩ : ∃ N : Int → Prop, N = fun x => -x ∈ -(g s.trail b) :: ls := ⟨_, rfl⟩
  have main : ∀ t, t < s.trail.length → Done s seen (g s.trail t) → D Φ N (g s.trail t) := by
    intro t
    induction t using Nat.strongRecOn with
    | ind t ih =>
      intro ht hd
      have step : t ∉ ks → (∀ m ∈ cl s (reaA s (g s.trail t)), m ≠ g s.trail t → Done s seen m) → D Φ N (g s.trail t) := fun hks hdn => by
        obtain ⟨w1, w2, w3, w4⟩ := hh.rea t ht hks
        obtain ⟨c, hc1, hc2⟩ := hsrc _ w2
        refine .unit hc1 ((hc2 _).2 w3) fun m hm hne => ?_
        have hm' := (hc2 m).1 hm
        rcases w4 m hm' with e | e
        · exact absurd e hne
        · obtain ⟨u, u1, u2, u3⟩ := mem_take_iff.1 e
          rw [← u3]
          refine ih u u1 u2 ?_
          rw [u3]
          rcases hdn m hm' hne with hd2 | hd2
          · exact .inl (by rw [levA_neg]; exact hd2)
          · exact .inr (by rw [sb_neg]; exact hd2)
      have hlv := hh.lev t ht
      by_cases hz : levA s (g s.trail t) = 0
      · have hl0 : lvl ks t = 0 := by omega
        have hks : t ∉ ks := fun hm => by
          have : 0 < (ks.filter (· ≤ t)).length := List.length_pos_of_mem (List.mem_filter.2 ⟨hm, by simp⟩)
          unfold lvl at hl0; omega
        refine step hks fun m hm hne => .inl ?_
        obtain ⟨w1, w2, w3, w4⟩ := hh.rea t ht hks
        rcases w4 m hm with e | e
        · exact absurd e hne
        · obtain ⟨u, u1, u2, u3⟩ := mem_take_iff.1 e
          have := hh.lev u u2
          rw [u3, levA_neg] at this
          have := lvl_mono (ks := ks) (t := u) (u := t) (by omega)
          omega
      · have hsn : sb seen (g s.trail t) = true := hd.resolve_left hz
        obtain ⟨_, a2⟩ := h.s1 t ht hsn
        by_cases hl : lvl ks t < ks.length
        · refine .base ?_
          rw [hN]
          exact List.mem_cons_of_mem _ (a2 hl)
        · have hkt : kLast ks ≤ t := (lvl_last hh h0 t).1 (by have := lvl_le ks t; omega)
          rcases Nat.lt_trichotomy t b with c | c | c
          · rw [hno t c hkt] at hsn; cases hsn
          · subst c
            refine .base ?_
            rw [hN]
            exact List.mem_cons_self
          · obtain ⟨p, q⟩ := hex t c ht hsn
            exact step p fun m hm _ => q m hm
  refine ⟨by omega, hk, ?_, ?_, hlow, h.bk2, ?_⟩
  · rw [List.nodup_cons]
    refine ⟨fun hm => ?_, h.nd⟩
    obtain ⟨_, _, e, _⟩ := hlow _ hm
    rw [levA_neg, hh.lev b (by omega), (lvl_last hh h0 b).2 hk] at e
    omega
  · intro l hl
    rcases List.mem_cons.1 hl with e | hl
    · rw [e]
      have := hh.nz _ (g_mem (show b < s.trail.length by omega))
      exact ⟨(hh.lit _ (g_mem (by omega))).neg, by omega⟩
    · have h1 := (hlow l hl).1
      have := hh.nz _ h1
      have h2 := (hh.lit _ h1).neg
      rw [Int.neg_neg] at h2
      exact ⟨h2, by omega⟩
  · obtain ⟨⟨c1, c2⟩, c3⟩ := hcl
    obtain ⟨c, hc1, hc2⟩ := hsrc _ c1
    rw [← hN]
    refine ⟨c, hc1, fun m hm => ?_⟩
    have hm' : m ∈ cl s i0 := (hc2 m).1 hm
    obtain ⟨u, u2, u3⟩ := mem_iff_g.1 (c3 m hm')
    rw [← u3]
    refine main u u2 ?_
    rw [u3]
    rcases hk0 m hm' with hd2 | hd2
    · exact .inl (by rw [levA_neg]; exact hd2)
    · exact .inr (by rw [sb_neg]; exact hd2)
/-- A clause that fails has a literal of the last level. -/
theorem clash_last (h : Ok Φ A s n T ks) (hh : Hist s n ks) (h0 : 0 < ks.length) (hc : Clash s i0) : ∃ x ∈ cl s i0, levA s x = ks.length ∧ Lit n x ∧ x ≠ 0 ∧ -x ∈ s.trail := by
  obtain ⟨⟨c1, c2⟩, c3⟩ := hc
  have hT : Two s i0.toNat := ⟨c1, c2⟩
  have hw := wt_both s i0.toNat
  obtain ⟨m0, m1⟩ := hw.mem hT
  have f0 := c3 _ m0
  have f1 := c3 _ m1
  have hk := kLast_mem h0
  have hno : ¬ -(rd (cw s i0.toNat) 0) ∈ s.trail.take (kLast ks) := fun hm => h.apart (List.mem_of_mem_take (h.wat _ hk _ _ _ hT hw hm)) f1
  obtain ⟨t, t1, t2⟩ := mem_iff_g.1 f0
  have ht : kLast ks ≤ t := Classical.byContradiction fun hlt => hno (mem_take_iff.2 ⟨t, by omega, t1, t2⟩)
  obtain ⟨L0, Z0⟩ := Two.lits h hT m0
  refine ⟨_, m0, ?_, L0, Z0, f0⟩
  have := hh.lev t t1
  rw [t2, levA_neg, (lvl_last hh h0 t).2 ht] at this
  exact this
/-- Something of the last level has been seen. -/
theorem J.some_ {b : Nat} {ls : List Int} {seen : List Bool} {op bk : Int} (h : J s n ks i0 b [] seen ls op bk) (hh : Hist s n ks) (h0 : 0 < ks.length) (ho : 1 ≤ op ∨ ∃ x, levA s x = ks.length ∧ -x ∈ s.trail.take b ∧ Done s seen x) : 1 ≤ op := by
  rcases ho with ho | ⟨x, e1, e2, e3⟩
  · exact ho
  · obtain ⟨t, t1, t2, t3⟩ := mem_take_iff.1 e2
    have hk : kLast ks ≤ t := (lvl_last hh h0 t).1 (by have := hh.lev t t2; rw [t3, levA_neg] at this; omega)
    have hs : sb seen (g s.trail t) = true := by
      rw [t3, sb_neg]
      exact e3.resolve_left (by omega)
    have := cnt_one (p := fun t => decide (kLast ks ≤ t) && sb seen (g s.trail t)) (t := t) (by simp [hk, hs]) t1
    rw [h.op]; omega
/-- Where something has been seen, the search backwards ends. -/
theorem J.stop {b : Nat} {ls : List Int} {seen : List Bool} {op bk : Int} (h : J s n ks i0 b [] seen ls op bk) (ho : 1 ≤ op) : 0 < b ∧ kLast ks < b := by
  have hop := h.op
  obtain ⟨t, t1, t2⟩ := cnt_pos (p := fun t => decide (kLast ks ≤ t) && sb seen (g s.trail t)) (b := b) (by omega)
  simp only [Bool.and_eq_true, decide_eq_true_eq] at t2
  omega
end
end Go.Proofs.Ytcahhbcehnbdkaa.Sv

/- A search as a law: how its states follow one another. -/
namespace Go.Proofs.Ytcahhbcehnbdkaa.Sv
open Go.RowKit Go.Proofs.YtcahhbcehnbdkaaW.PrintWords

/-! ### The measure: what follows at a place weighs more than all behind it -/
def wgt (A : Nat) (ks : List Nat) : Nat → Nat
  | 0 => 0
  | t + 1 => wgt A ks t + if t ∈ ks then 0 else 2 ^ (A - 1 - t)
theorem wgt_le (A : Nat) (ks : List Nat) : ∀ t, t ≤ A → wgt A ks t + 2 ^ (A - t) ≤ 2 ^ A
  | 0, _ => by simp [wgt]
  | t + 1, h => by
    have ih := wgt_le A ks t (by omega)
    have e : A - t = (A - 1 - t) + 1 := by omega
    have e2 : A - (t + 1) = A - 1 - t := by omega
    rw [e, Nat.pow_succ] at ih
    rw [e2]
    simp only [wgt]
    split <;> omega
theorem wgt_between (A : Nat) (ks : List Nat) (k : Nat) : ∀ t, k ≤ t → t ≤ A → wgt A ks t + 2 ^ (A - t) ≤ wgt A ks k + 2 ^ (A - k)
  | 0, h, _ => by
    have : k = 0 := by omega
    subst this
    exact Nat.le_refl _
  | t + 1, h, h2 => by
    by_cases e : k = t + 1
    · subst e; exact Nat.le_refl _
    · have ih := wgt_between A ks k t (by omega) (by omega)
      have e : A - t = (A - 1 - t) + 1 := by omega
      have e2 : A - (t + 1) = A - 1 - t := by omega
      rw [e, Nat.pow_succ] at ih
      rw [e2]
      simp only [wgt]
      split <;> omega
theorem wgt_mono (A : Nat) (ks : List Nat) {k t : Nat} (h : k ≤ t) : wgt A ks k ≤ wgt A ks t := by
  induction t with
  | zero => have : k = 0 := by omega
            subst this; exact Nat.le_refl _
  | succ t ih =>
    by_cases e : k = t + 1
    · subst e; exact Nat.le_refl _
    · have := ih (by omega)
      simp only [wgt]
      omega
theorem wgt_congr {A : Nat} {ks ks' : List Nat} : ∀ {t : Nat}, (∀ q, q < t → (q ∈ ks ↔ q ∈ ks')) → wgt A ks t = wgt A ks' t
  | 0, _ => rfl
  | t + 1, h => by
    simp only [wgt]
    rw [wgt_congr (t := t) fun q hq => h q (by omega)]
    congr 1
    have := h t (by omega)
    by_cases e : t ∈ ks
    · rw [if_pos e, if_pos (this.1 e)]
    · rw [if_neg e, if_neg fun e2 => e (this.2 e2)]
theorem wgt_back {A k len : Nat} {ks : List Nat} (hk : k ∈ ks) (h1 : k < len) (h2 : len ≤ A) {ks' : List Nat} (hs : ∀ q, q < k → (q ∈ ks ↔ q ∈ ks')) (hn : k ∉ ks') : wgt A ks len + 1 ≤ wgt A ks' (k + 1) := by
  have h3 := wgt_between A ks (k + 1) len (by omega) h2
  have h4 : wgt A ks (k + 1) = wgt A ks k := by simp [wgt, hk]
  have h5 : wgt A ks' (k + 1) = wgt A ks k + 2 ^ (A - 1 - k) := by
    simp only [wgt]
    rw [if_neg hn, wgt_congr (ks := ks) (ks' := ks') (t := k) hs]
  have h6 : A - (k + 1) = A - 1 - k := by omega
  have h7 : 0 < 2 ^ (A - len) := Nat.two_pow_pos _
  rw [h6] at h3
  omega

/-! ### A search between two steps -/
section
variable {Φ0 : List (List Int)} {s r : S} {n N0 : Nat} {ks : List Nat} {A : Int → Prop}
def Dec (s : S) (ks : List Nat) (l : Int) : Prop := ∃ q, q ∈ ks ∧ g s.trail q = l
structure Run (Φ0 : List (List Int)) (s : S) (n N0 : Nat) (ks : List Nat) : Prop where
  ok : Ok (Φ0 ++ s.proof) (Dec s ks) s n (2 * (N0 + s.proof.length)) ks
  cov : ∃ k, Cov Φ0 s k ∧ k ≤ s.trail.length ∧ ∀ x ∈ ks, k ≤ x
  hist : Hist s n ks
  src : Src (Φ0 ++ s.proof) s
  nz : ∀ c ∈ Φ0, ∀ l ∈ c, Lit n l ∧ l ≠ 0
  pl : ∀ c ∈ s.proof, c.length < n ∧ ∀ l ∈ c, Lit n l ∧ l ≠ 0
  atm : s.atoms = (n : Int) - 1
  act : s.active.length = n
  cls : s.clauses.length ≤ N0 + s.proof.length
  chain : ∀ i, i < s.proof.length → Conf (Φ0 ++ s.proof.take i) fun l => -l ∈ s.proof.getD i []
  few : s.proof.length ≤ wgt (n - 1) ks s.trail.length
theorem nodup_len : ∀ {l m : List Int}, l.Nodup → (∀ x ∈ l, x ∈ m) → l.length ≤ m.length
  | [], _, _, _ => by simp
  | a :: l, m, hn, hs => by
    obtain ⟨h1, h2⟩ := List.nodup_cons.1 hn
    have hm := hs a (by simp)
    have := nodup_len (l := l) (m := m.erase a) h2 fun x hx => (List.mem_erase_of_ne (fun e => by subst e; exact h1 hx)).2 (hs x (by simp [hx]))
    rw [List.length_erase_of_mem hm] at this
    have := List.length_pos_of_mem hm
    simp only [List.length_cons]
    omega
theorem Hist.short (h : Hist s n ks) (htn : (s.trail.map av).Nodup) (hn : 0 < n) : s.trail.length + 1 ≤ n := by
  have h1 : ((0 : Int) :: s.trail.map av).Nodup := List.nodup_cons.2 ⟨fun hm => by
    obtain ⟨l, hl, e⟩ := List.mem_map.1 hm
    have := h.nz l hl
    unfold av at e; omega, htn⟩
  have h2 : ∀ x ∈ (0 : Int) :: s.trail.map av, x ∈ (List.range n).map fun (k : Nat) => (k : Int) := fun x hx => by
    rcases List.mem_cons.1 hx with rfl | hx
    · exact List.mem_map.2 ⟨0, List.mem_range.2 hn, rfl⟩
    · obtain ⟨l, hl, rfl⟩ := List.mem_map.1 hx
      obtain ⟨a, b⟩ := h.lit l hl
      refine List.mem_map.2 ⟨(av l).toNat, List.mem_range.2 ?_, ?_⟩ <;> unfold av <;> omega
  have := nodup_len h1 h2
  simp at this
  omega
theorem dec_sound {Φ : List (List Int)} (h : Hist s n ks) (hs : Src Φ s) : ∀ t, t < s.trail.length → D Φ (fun l => ∃ q, q ∈ ks ∧ q ≤ t ∧ g s.trail q = l) (g s.trail t) := by
  intro t
  induction t using Nat.strongRecOn with
  | ind t ih =>
    intro ht
    by_cases hk : t ∈ ks
    · exact .base ⟨t, hk, Nat.le_refl _, rfl⟩
    · obtain ⟨w1, w2, w3, w4⟩ := h.rea t ht hk
      obtain ⟨c, hc1, hc2⟩ := hs _ w2
      refine .unit hc1 ((hc2 _).2 w3) fun m hm hne => ?_
      rcases w4 m ((hc2 m).1 hm) with e | e
      · exact absurd e hne
      · obtain ⟨u, u1, u2, u3⟩ := mem_take_iff.1 e
        rw [← u3]
        exact (ih u u1 u2).mono (fun _ h => h) fun l ⟨q, q1, q2, q3⟩ => ⟨q, q1, by omega, q3⟩
theorem Run.sound {Φ : List (List Int)} (h : Hist s n ks) (hs : Src Φ s) : ∀ l ∈ s.trail, D Φ (Dec s ks) l := fun l hl => by
  obtain ⟨t, t1, rfl⟩ := mem_iff_g.1 hl
  exact (dec_sound h hs t t1).mono (fun _ h => h) fun l ⟨q, q1, _, q3⟩ => ⟨q, q1, q3⟩
/-- Propagation. -/
theorem Run.prop (h : Run Φ0 s n N0 ks) (hp : Pro s s.head.toNat fun _ _ => False) (f : Nat) (hf : n + 1 ≤ f + s.head.toNat) :
    Run Φ0 (prop f s).1 n N0 ks ∧ s.trail.length ≤ (prop f s).1.trail.length ∧ (prop f s).1.proof = s.proof ∧
      (((prop f s).2 = -1 ∧ (prop f s).1.head = (prop f s).1.trail.length ∧ Pro (prop f s).1 (prop f s).1.trail.length fun _ _ => False) ∨ (0 ≤ (prop f s).2 ∧ Clash (prop f s).1 (prop f s).2)) := by
  obtain ⟨r1, r2, r3, r4⟩ := prop_okS f s hf h.ok hp
  obtain ⟨more, em⟩ := r2.trail
  have hh := h.hist.steps r4
  have hlen : s.trail.length ≤ (Sv.prop f s).1.trail.length := by rw [em, List.length_append]; omega
  obtain ⟨k, k1, k2, k3⟩ := h.cov
  have ep := r2.proof
  have hsrc : Src (Φ0 ++ (Sv.prop f s).1.proof) (Sv.prop f s).1 := by rw [ep]; exact h.src.steps r4
  refine ⟨⟨?_, ⟨k, k1.ext r2.same (by rw [em, List.take_append_of_le_length k2]), by omega, k3⟩, hh, hsrc, h.nz, by rw [ep]; exact h.pl, by rw [r2.atoms]; exact h.atm, by rw [r2.active]; exact h.act, by rw [r2.nclauses, ep]; exact h.cls, by rw [ep]; exact h.chain, by rw [ep]; exact Nat.le_trans h.few (wgt_mono _ _ hlen)⟩, hlen, ep, ?_⟩
  · have := r1.assuming (A' := Dec (Sv.prop f s).1 ks) fun l hl => by
      have := Run.sound hh hsrc l hl
      rwa [ep] at this
    rw [ep]
    exact this
  · exact r3.imp id fun hh => ⟨hh.1, hh.2.2⟩
/-- What holds of a literal of the model. -/
theorem Run.model (h : Run Φ0 s n N0 ks) (hp : Pro s s.trail.length fun _ _ => False) (hv : ∀ v : Nat, 1 ≤ v → v < n → rd s.value v ≠ 0) : ∀ c ∈ Φ0, ∃ l ∈ c, ofv s l = 1 := fun c hc => by
  obtain ⟨k, k1, k2, k3⟩ := h.cov
  have hval : ∀ l, Lit n l → l ≠ 0 → ofv s l = 1 ∨ ofv s l = -1 := fun l hl hz => by
    have hs := ofv_small h.ok.good.value h.ok.good.small hl
    have : ofv s l ≠ 0 := fun e => by
      obtain ⟨a, b⟩ := hl
      have := hv (av l).toNat (by unfold av; omega) (by unfold av; omega)
      apply this
      have e2 : (((av l).toNat : Nat) : Int) = av l := by unfold av; omega
      rw [e2]
      unfold ofv at e
      split at e
      · rw [show av l = -l by unfold av; omega]; omega
      · rw [show av l = l by unfold av; omega]; exact e
    omega
  rcases k1 c hc with ⟨l, l1, l2⟩ | ⟨l, l1, l2⟩ | ⟨j, j1, j2⟩
  · obtain ⟨hL, hz⟩ := h.nz c hc l l1
    rcases hval l hL hz with e | e
    · exact ⟨l, l1, e⟩
    · exact ⟨-l, l2, by rw [ofv_neg hz, e]; rfl⟩
  · exact ⟨l, l1, h.hist.tt l (List.mem_of_mem_take l2)⟩
  · have hw := wt_both s j
    obtain ⟨m0, m1⟩ := hw.mem j1
    obtain ⟨L0, Z0⟩ := Two.lits h.ok j1 m0
    rcases hval _ L0 Z0 with e | e
    · exact ⟨_, (j2 _).2 m0, e⟩
    · have hm := (h.ok.false_ L0 Z0).1 e
      have := (hp j _ _ j1 hw (by rw [List.take_length]; exact hm)).elim id False.elim
      exact ⟨_, (j2 _).2 m1, h.hist.tt _ this⟩
def pushS (s : S) : S := { s with marks := s.marks ++ [(s.trail.length : Int)] }
/-- A decision. -/
theorem Run.decide_ (h : Run Φ0 s n N0 ks) (hp : Pro s s.trail.length fun _ _ => False) (hhd : s.head = s.trail.length) {v : Int} (hv : 1 ≤ v) (hvn : v < n) (h0 : rd s.value v = 0) :
    Run Φ0 (setS (pushS s) (-v) (-1)) n N0 (ks ++ [s.trail.length]) ∧ Pro (setS (pushS s) (-v) (-1)) (setS (pushS s) (-v) (-1)).head.toNat fun _ _ => False := by
  have hL : Lit n (-v) := ⟨by omega, by omega⟩
  have hz : -v ≠ 0 := by omega
  have hof : ofv s (-v) = 0 := by
    unfold ofv
    rw [if_pos (by omega), Int.neg_neg, h0]; rfl
  have hks : ∀ k ∈ ks, k < s.trail.length := h.hist.lt
  have hh : Hist (setS (pushS s) (-v) (-1)) n (ks ++ [s.trail.length]) := by
    refine h.hist.setM (m := s.marks ++ [(s.trail.length : Int)]) hL hz hof (by rw [h.hist.mks]; simp) ?_ ?_ (fun t ht => ⟨?_, fun hm hm2 => hm (List.mem_append_left _ hm2)⟩) fun hm => absurd (by simp) hm
    · rw [List.pairwise_append]
      exact ⟨h.hist.ord, by simp, fun a ha b hb => by rw [List.mem_singleton.1 hb]; exact hks a ha⟩
    · intro k hk
      rcases List.mem_append.1 hk with hk | hk
      · exact Nat.le_of_lt (hks k hk)
      · rw [List.mem_singleton.1 hk]; exact Nat.le_refl _
    · unfold lvl
      rw [List.filter_append]
      have : ¬ s.trail.length ≤ t := by omega
      simp [this]
  have ok1 : Ok (Φ0 ++ s.proof) (fun l => Dec s ks l ∨ l = -v) (pushS s) n (2 * (N0 + s.proof.length)) (ks ++ [s.trail.length]) :=
    ((h.ok.assuming (A' := fun l => Dec s ks l ∨ l = -v) fun l hl => (h.ok.sound l hl).mono (fun _ h => h) fun _ h => .inl h).levels fun k hk => by
      rcases List.mem_append.1 hk with hk | hk
      · exact .inl hk
      · exact .inr ⟨List.mem_singleton.1 hk, hp⟩).marks _
  have ok2 := ok1.setS (l := -v) (r := -1) hL hz hof (.base (.inr rfl))
  have hsrc : Src (Φ0 ++ s.proof) (setS (pushS s) (-v) (-1)) := h.src
  have pro1 : Pro (pushS s) s.trail.length fun _ _ => False := hp
  obtain ⟨k, k1, k2, k3⟩ := h.cov
  have hlen : (setS (pushS s) (-v) (-1)).trail.length = s.trail.length + 1 := by show (s.trail ++ [-v]).length = _; simp
  refine ⟨⟨ok2.assuming fun l hl => Run.sound hh hsrc l hl, ⟨k, ?_, by omega, fun x hx => ?_⟩, hh, hsrc, h.nz, h.pl, h.atm, h.act, h.cls, h.chain, ?_⟩, ?_⟩
  · refine Cov.ext (s := s) k1 (fun _ => ⟨.rfl, fun _ => .rfl⟩) ?_
    show (s.trail ++ [-v]).take k = _
    rw [List.take_append_of_le_length k2]
  · rcases List.mem_append.1 hx with hx | hx
    · exact k3 x hx
    · rw [List.mem_singleton.1 hx]; exact k2
  · refine Nat.le_trans h.few ?_
    rw [hlen]
    have : wgt (n - 1) ks s.trail.length = wgt (n - 1) (ks ++ [s.trail.length]) s.trail.length := wgt_congr fun q hq => by
      simp only [List.mem_append, List.mem_singleton]
      exact ⟨.inl, fun h => h.elim id fun e => by omega⟩
    rw [this]
    exact wgt_mono _ _ (by omega)
  · have e : (setS (pushS s) (-v) (-1)).head.toNat = s.trail.length := by show s.head.toNat = _; rw [hhd]; rfl
    rw [e]
    exact pro1.setS (Nat.le_refl _)

/-! ### A clause is learned -/
/-- Fields that the clauses' sense does not look at. -/
theorem Ok.ctx {Φ : List (List Int)} {T : Nat} (h : Ok Φ A s n T ks) (a : List Int) (p : List (List Int)) : Ok Φ A { s with active := a, proof := p } n T ks :=
  { h with good := { h.good with }, net := ⟨h.net.has, h.net.only, h.net.nd, h.net.cnd⟩ }
theorem undoTo_lr : ∀ (m : Nat) (s : S), (undoTo s m).level = s.level ∧ (undoTo s m).reason = s.reason
  | 0, _ => ⟨rfl, rfl⟩
  | m + 1, s => undoTo_lr m (popS s)
def gone (s : S) (act : List Int) (c : List Int) (bk : Int) : S := undoS { s with active := act, proof := s.proof ++ [c] } bk
/-- What is there behind the way back. -/
structure Back (Φ0 : List (List Int)) (s : S) (n N0 : Nat) (ks : List Nat) (act : List Int) (c : List Int) (bk : Int) (j k : Nat) : Prop where
  jl : j < ks.length
  bkj : bk = j
  kj : k = ks.getD j 0
  ok : Ok (Φ0 ++ (s.proof ++ [c])) (Dec (gone s act c bk) (ks.take j)) (gone s act c bk) n (2 * (N0 + s.proof.length)) (ks.take j)
  pro : Pro (gone s act c bk) (gone s act c bk).trail.length fun _ _ => False
  hist : Hist (gone s act c bk) n (ks.take j)
  src : Src (Φ0 ++ (s.proof ++ [c])) (gone s act c bk)
  trail : (gone s act c bk).trail = s.trail.take k
  kl : k < s.trail.length
  cls : (gone s act c bk).clauses = s.clauses
  head : (gone s act c bk).head = (gone s act c bk).trail.length
  atm : (gone s act c bk).atoms = s.atoms
  prf : (gone s act c bk).proof = s.proof ++ [c]
  actv : (gone s act c bk).active = act
  cov : ∃ q, Cov Φ0 (gone s act c bk) q ∧ q ≤ k ∧ ∀ x ∈ ks, q ≤ x
theorem Run.back (h : Run Φ0 s n N0 ks) {c : List Int} {act : List Int} {bk : Int} (hb0 : 0 ≤ bk) (hb1 : bk < ks.length) : ∃ j k, Back Φ0 s n N0 ks act c bk j k := by
  obtain ⟨j, hj⟩ : ∃ j : Nat, bk = j := ⟨bk.toNat, by omega⟩
  have hjl : j < ks.length := by omega
  obtain ⟨k, hk⟩ : ∃ k, k = ks.getD j 0 := ⟨_, rfl⟩
  have hkm : k ∈ ks := by rw [hk]; exact mem_getD hjl
  have hkl := h.hist.lt k hkm
  have hgt : ∀ q (hq : q < ks.length), q ≤ j → ks[q] ≤ k := fun q hq hqj => by
    rw [hk, List.getD_eq_getElem?_getD, List.getElem?_eq_getElem hjl]
    by_cases e : q = j
    · subst e; exact Nat.le_refl _
    · exact Nat.le_of_lt (List.pairwise_iff_getElem.1 h.hist.ord q j hq hjl (by omega))
  have hrd : rd s.marks bk = k := by
    rw [h.hist.mks, hj, hk]
    simp [rd, List.getD_eq_getElem?_getD, List.getElem?_eq_getElem hjl]
  have sub : ∀ d ∈ Φ0 ++ s.proof, d ∈ Φ0 ++ (s.proof ++ [c]) := fun d hd => by
    rcases List.mem_append.1 hd with hd | hd
    · exact List.mem_append_left _ hd
    · exact List.mem_append_right _ (List.mem_append_left _ hd)
  have ok1 := ((h.ok.ctx act (s.proof ++ [c])).more sub).levels (ks' := ks.take (j + 1)) fun q hq => .inl (List.mem_of_mem_take hq)
  have hsrc1 : Src (Φ0 ++ (s.proof ++ [c])) { s with active := act, proof := s.proof ++ [c] } := h.src.more sub
  have hA : ∀ l ∈ s.trail.take k, D (Φ0 ++ (s.proof ++ [c])) (fun l => ∃ q, q ∈ ks ∧ q < k ∧ g s.trail q = l) l := fun l hl => by
    obtain ⟨t, t1, t2, rfl⟩ := mem_take_iff.1 hl
    exact (dec_sound h.hist h.src t t2).mono sub fun l ⟨q, q1, q2, q3⟩ => ⟨q, q1, by omega, q3⟩
  obtain ⟨u1, u2, u3, u4, u5, u6, u7, u8, u9, _⟩ := undo_ok ok1 (lev := bk) (k := k) hrd (Nat.le_of_lt hkl) (fun q hq => by
    obtain ⟨i, hi, rfl⟩ := List.mem_iff_getElem.1 hq
    rw [List.length_take] at hi
    rw [List.getElem_take]
    exact hgt i (by omega) (by omega)) hA
  have hkt : k ∈ ks.take (j + 1) := List.mem_iff_getElem.2 ⟨j, by rw [List.length_take]; omega, by rw [List.getElem_take, hk, List.getD_eq_getElem?_getD, List.getElem?_eq_getElem hjl]; rfl⟩
  have hlr : (gone s act c bk).level = s.level ∧ (gone s act c bk).reason = s.reason := by
    unfold gone undoS
    exact undoTo_lr _ _
  have hh : Hist (gone s act c bk) n (ks.take j) := h.hist.back hjl (by rw [← hk]; exact u2) (by rw [show j = bk.toNat by omega]; exact u5) u3 u1.good.value hlr.1 hlr.2 u1.good.tt
  have hs2 : Src (Φ0 ++ (s.proof ++ [c])) (gone s act c bk) := fun q hq => by
    have hq' : q < s.clauses.length := by have e : (gone s act c bk).clauses = s.clauses := u3; rw [e] at hq; exact hq
    obtain ⟨d, d1, d2⟩ := hsrc1 q hq'
    refine ⟨d, d1, fun x => (d2 x).trans ?_⟩
    unfold cw
    have e : (gone s act c bk).clauses = s.clauses := u3
    rw [e]
  have hsub : ∀ q ∈ ks.take j, q ∈ ks.take (j + 1) := fun q hq => by
    obtain ⟨i, hi, rfl⟩ := List.mem_iff_getElem.1 hq
    rw [List.length_take] at hi
    exact List.mem_iff_getElem.2 ⟨i, by rw [List.length_take]; omega, by rw [List.getElem_take, List.getElem_take]⟩
  obtain ⟨q, q1, q2, q3⟩ := h.cov
  refine ⟨j, k, hjl, hj, hk, ((u1.levels (ks' := ks.take j) fun q hq => .inl (hsub q hq)).assuming fun l hl => Run.sound hh hs2 l hl), u6 hkt, hh, hs2, u2, hkl, u3, u4, u7, u8, u9, q, ?_, q3 k hkm, q3⟩
  refine Cov.ext (s := s) q1 (fun i => ?_) ?_
  · have e : (gone s act c bk).clauses = s.clauses := u3
    exact ⟨by unfold Two cw; rw [e], fun x => by unfold cw; rw [e]⟩
  · have e : (gone s act c bk).trail = s.trail.take k := u2
    rw [e, List.take_take, Nat.min_eq_left (q3 k hkm)]
end
end Go.Proofs.Ytcahhbcehnbdkaa.Sv

/- A learned clause comes in, as a law. -/
namespace Go.Proofs.Ytcahhbcehnbdkaa.Sv
open Go.RowKit Go.Proofs.YtcahhbcehnbdkaaW.PrintWords

/-- The first literal behind the first one that is of a level comes to the second place. -/
def WatR (s : S) (lev : Int) (c c' : List Int) : Prop := (∃ k, 1 ≤ k ∧ k < c.length ∧ levA s (g c k) = lev ∧ c' = swp c 1 k) ∨ ((∀ k, 1 ≤ k → k < c.length → levA s (g c k) ≠ lev) ∧ c' = c)
section
variable {Φ0 : List (List Int)} {s r : S} {n N0 : Nat} {ks : List Nat} {A : Int → Prop}
theorem lvl_lt {j t : Nat} (ho : ks.Pairwise (· < ·)) (hj : j < ks.length) (h : lvl ks t ≤ j) : t < ks.getD j 0 := by
  refine Classical.byContradiction fun hlt => ?_
  have h1 : (ks.take (j + 1)).filter (· ≤ t) = ks.take (j + 1) := List.filter_eq_self.2 fun k hk => by
    obtain ⟨i, hi, rfl⟩ := List.mem_iff_getElem.1 hk
    rw [List.length_take] at hi
    rw [List.getElem_take]
    rw [List.getD_eq_getElem?_getD, List.getElem?_eq_getElem hj] at hlt
    simp only [Option.getD_some] at hlt
    have : ks[i] ≤ ks[j] := by
      by_cases e : i = j
      · subst e; exact Nat.le_refl _
      · exact Nat.le_of_lt (List.pairwise_iff_getElem.1 ho i j (by omega) hj (by omega))
    simp only [decide_eq_true_eq]
    omega
  have h2 : ((ks.take (j + 1)).filter (· ≤ t)).length ≤ (ks.filter (· ≤ t)).length := ((List.take_sublist (j + 1) ks).filter _).length_le
  rw [h1, List.length_take] at h2
  unfold lvl at h
  omega
theorem Pro.learn {c0 c1 : Int} {q : List Int} {i : Int} (hp : Pro s s.trail.length fun _ _ => False) (hno : -c0 ∉ s.trail) : Pro (Sv.setS (Sv.add2 s c0 c1 q) c0 i) s.trail.length fun _ _ => False := fun j x y hj hw hx => by
  have hx' : -x ∈ s.trail := by
    have : -x ∈ (s.trail ++ [c0]).take s.trail.length := hx
    rwa [List.take_append_of_le_length (Nat.le_refl _), List.take_length] at this
  rcases (two_withC (s := s) (c0 :: c1 :: q) j).1 hj with h2 | ⟨h2, _⟩
  · have hw' : Wt s j x y := (wt_withC (s := s) (c0 :: c1 :: q) (by have := h2.1; omega) x y).1 hw
    exact .inl (List.mem_append_left _ ((hp j x y h2 hw' (by rw [List.take_length]; exact hx')).elim id False.elim))
  · subst h2
    have hw' : (x = c0 ∧ y = c1) ∨ (x = c1 ∧ y = c0) := by
      have e : cw (Sv.setS (Sv.add2 s c0 c1 q) c0 i) s.clauses.length = c0 :: c1 :: q := (cw_withC (s := s) _ _).trans (if_pos rfl)
      unfold Wt at hw
      rw [e] at hw
      exact hw
    rcases hw' with ⟨rfl, _⟩ | ⟨_, rfl⟩
    · exact absurd hx' hno
    · exact .inl (List.mem_append_right _ (by simp))
/-- The state behind: the clause is in, its first literal true. -/
def learnS (sC : S) (c : List Int) : S := if 1 < c.length then setS (addS sC c).1 (rd c 0) sC.clauses.length else (addS sC c).1
theorem Run.learn (h : Run Φ0 s n N0 ks) {tp : Nat} {ls act c' : List Int} {bk : Int} (h0 : 0 < ks.length) (hL : Lrn s n ks (Φ0 ++ s.proof) tp ls bk) (hw : WatR s bk (-(g s.trail tp) :: ls) c') (hact : act.length = n) (hN : N0 + s.proof.length < 1000000) (hn30 : n < 1073741824) {j k : Nat} (B : Back Φ0 s n N0 ks act (-(g s.trail tp) :: ls) bk j k) :
    (addS (gone s act (-(g s.trail tp) :: ls) bk) c').2 = true ∧ Run Φ0 (learnS (gone s act (-(g s.trail tp) :: ls) bk) c') n N0 (ks.take j) ∧ Pro (learnS (gone s act (-(g s.trail tp) :: ls) bk) c') (learnS (gone s act (-(g s.trail tp) :: ls) bk) c').head.toNat (fun _ _ => False) ∧
      wgt (n - 1) ks s.trail.length + 1 ≤ wgt (n - 1) (ks.take j) (learnS (gone s act (-(g s.trail tp) :: ls) bk) c').trail.length ∧ (learnS (gone s act (-(g s.trail tp) :: ls) bk) c').proof = s.proof ++ [-(g s.trail tp) :: ls] := by
  obtain ⟨p, hp⟩ : ∃ p, p = g s.trail tp := ⟨_, rfl⟩
  obtain ⟨c, hc⟩ : ∃ c, c = -p :: ls := ⟨_, rfl⟩
  rw [← hp, ← hc] at B hw ⊢
  obtain ⟨sC, hsC⟩ : ∃ sC, sC = gone s act c bk := ⟨_, rfl⟩
  have hn0 : 0 < n := by obtain ⟨a, b⟩ := h.hist.lit _ (g_mem hL.tl); omega
  have hmem : p ∈ s.trail := by rw [hp]; exact g_mem hL.tl
  have hlit : ∀ l ∈ c, Lit n l ∧ l ≠ 0 := by rw [hc, hp]; exact hL.lit
  have hnd : c.Nodup := by rw [hc, hp]; exact hL.nd
  obtain ⟨L0, Z0⟩ := hlit (-p) (by rw [hc]; simp)
  have hkm : k ∈ ks := by rw [B.kj]; exact mem_getD B.jl
  have hkk : k ≤ kLast ks := kLast_max h.hist hkm
  have hpn : p ∉ s.trail.take k := fun hm => by
    obtain ⟨t, t1, t2, t3⟩ := mem_take_iff.1 hm
    have := h.hist.inj h.ok.tnd t2 hL.tl (by rw [t3, hp])
    have := hL.kl
    omega
  have hcon : c ∈ Φ0 ++ (s.proof ++ [c]) := by simp
  obtain ⟨b1, b2, b3, bok, bpro, bhist, bsrc, btr, bkl, bcls, bhd, batm, bprf, bact, bcov⟩ := B
  rw [← hsC] at bok bpro bhist bsrc btr bcls bhd batm bprf bact bcov
  rw [← hsC]
  have of0 : ofv sC (-p) = 0 := by
    have hs := ofv_small bok.good.value bok.good.small L0
    have n1 : ofv sC (-p) ≠ 1 := fun e => by
      have hm := bok.only _ L0 Z0 e
      rw [btr] at hm
      exact h.ok.apart hmem (List.mem_of_mem_take hm)
    have n2 : ofv sC (-p) ≠ -1 := fun e => by
      have hm := (bok.false_ L0 Z0).1 e
      rw [btr, Int.neg_neg] at hm
      exact hpn hm
    omega
  have hclen : c.length < n := by
    have h1 := nodup_len (m := s.trail.map fun x => -x) hnd fun x hx => by
      rw [hc] at hx
      rcases List.mem_cons.1 hx with rfl | hx
      · exact List.mem_map.2 ⟨p, hmem, rfl⟩
      · exact List.mem_map.2 ⟨-x, (hL.low x hx).1, Int.neg_neg x⟩
    rw [List.length_map] at h1
    have := h.hist.short h.ok.tnd hn0
    omega
  have hfalse : ∀ m ∈ ls, -m ∈ sC.trail := fun m hm => by
    obtain ⟨m1, m2, m3, m4⟩ := hL.low m hm
    obtain ⟨t, t1, t2⟩ := mem_iff_g.1 m1
    have hlv := h.hist.lev t t1
    rw [t2, levA_neg] at hlv
    rw [btr]
    exact mem_take_iff.2 ⟨t, by rw [b3]; exact lvl_lt h.hist.ord b1 (by omega), t1, t2⟩
  have hlenC : sC.trail.length = k := by rw [btr, List.length_take]; omega
  have hwg : ∀ t : S, t.trail = sC.trail ++ [-p] → wgt (n - 1) ks s.trail.length + 1 ≤ wgt (n - 1) (ks.take j) t.trail.length := fun t ht => by
    rw [ht, List.length_append, hlenC, List.length_singleton]
    refine wgt_back hkm bkl (by have := h.hist.short h.ok.tnd hn0; omega) (fun q hq => ?_) fun hm => ?_
    · constructor
      · intro hm
        obtain ⟨i, hi, rfl⟩ := List.mem_iff_getElem.1 hm
        refine List.mem_iff_getElem.2 ⟨i, ?_, by rw [List.getElem_take]⟩
        rw [List.length_take]
        have : i < j := Classical.byContradiction fun hij => by
          rw [b3, List.getD_eq_getElem?_getD, List.getElem?_eq_getElem b1] at hq
          simp only [Option.getD_some] at hq
          by_cases e : j = i
          · subst e; omega
          · have := List.pairwise_iff_getElem.1 h.hist.ord j i b1 hi (by omega)
            omega
        omega
      · exact List.mem_of_mem_take
    · obtain ⟨i, hi, e⟩ := List.mem_iff_getElem.1 hm
      rw [List.length_take] at hi
      rw [List.getElem_take] at e
      rw [b3, List.getD_eq_getElem?_getD, List.getElem?_eq_getElem b1] at e
      simp only [Option.getD_some] at e
      have := List.pairwise_iff_getElem.1 h.hist.ord i j (by omega) b1 (by omega)
      omega
  have hchain : ∀ i, i < (s.proof ++ [c]).length → Conf (Φ0 ++ (s.proof ++ [c]).take i) fun l => -l ∈ (s.proof ++ [c]).getD i [] := fun i hi => by
    rw [List.length_append, List.length_singleton] at hi
    by_cases e : i < s.proof.length
    · rw [List.take_append_of_le_length (by omega), List.getD_eq_getElem?_getD, List.getElem?_append_left e, ← List.getD_eq_getElem?_getD]
      exact h.chain i e
    · have : i = s.proof.length := by omega
      subst this
      rw [List.take_append_of_le_length (Nat.le_refl _), List.take_length]
      have : (s.proof ++ [c]).getD s.proof.length [] = c := by simp
      rw [this, hc, hp]
      exact hL.conf
  have hpl : ∀ d ∈ s.proof ++ [c], d.length < n ∧ ∀ l ∈ d, Lit n l ∧ l ≠ 0 := fun d hd => by
    rcases List.mem_append.1 hd with hd | hd
    · exact h.pl d hd
    · rw [List.mem_singleton.1 hd]; exact ⟨hclen, hlit⟩
  obtain ⟨q, q1, q2, q3⟩ := bcov
  have q3' : ∀ x ∈ ks.take j, q ≤ x := fun x hx => q3 x (List.mem_of_mem_take hx)
  have hpl2 : (s.proof ++ [c]).length = s.proof.length + 1 := by simp
  by_cases hls : ls = []
  · have hc' : c' = [-p] := by
      rcases hw with ⟨k1, a1, a2, _⟩ | ⟨_, e⟩
      · rw [hc, hls] at a2; simp at a2; omega
      · rw [e, hc, hls]
    subst hc'
    have eA : addS sC [-p] = (setS (withC sC [-p]) (-p) sC.clauses.length, decide (ofv (setS (withC sC [-p]) (-p) sC.clauses.length) (-p) = 1)) := by
      simp only [addS]; rw [if_pos of0]
    have eL : learnS sC [-p] = setS (withC sC [-p]) (-p) sC.clauses.length := by
      unfold learnS; rw [if_neg (by simp), eA]
    have okw := bok.short (c := [-p]) (fun l hl => by rw [List.mem_singleton.1 hl]; exact ⟨L0, Z0⟩) (by rw [bcls]; have := h.cls; omega) (by simp) (by simp)
    have hone : ofv (setS (withC sC [-p]) (-p) sC.clauses.length) (-p) = 1 := ofv_set_self (s := withC sC [-p]) (n := n) okw.good.value L0
    have hh0 : Hist (withC sC [-p]) n (ks.take j) := bhist.more (c := [-p]) rfl rfl rfl rfl rfl rfl
    have ecl : cl (withC sC [-p]) (sC.clauses.length : Int) = [-p] := (cw_withC (s := sC) [-p] sC.clauses.length).trans (if_pos rfl)
    have hh : Hist (setS (withC sC [-p]) (-p) sC.clauses.length) n (ks.take j) := hh0.set L0 Z0 of0 fun _ => ⟨Int.natCast_nonneg _, by show sC.clauses.length < _; rw [len_withC]; omega, by rw [ecl]; simp, fun m hm => by rw [ecl] at hm; exact .inl (List.mem_singleton.1 hm)⟩
    have hs : Src (Φ0 ++ (s.proof ++ [c])) (setS (withC sC [-p]) (-p) sC.clauses.length) := bsrc.snoc (c := [-p]) (r := setS (withC sC [-p]) (-p) sC.clauses.length) ⟨c, hcon, fun x => by rw [hc, hls]⟩ rfl
    have okf := okw.setS (l := -p) (r := (sC.clauses.length : Int)) L0 Z0 of0 (.unit hcon (by rw [hc]; simp) fun m hm hne => by rw [hc, hls] at hm; exact absurd (List.mem_singleton.1 hm) hne)
    have hlen2 : (setS (withC sC [-p]) (-p) (sC.clauses.length : Int)).trail = sC.trail ++ [-p] := rfl
    rw [eL]
    refine ⟨by rw [eA]; exact decide_eq_true hone, ⟨?_, ⟨q, ?_, ?_, q3'⟩, hh, ?_, h.nz, ?_, batm.trans h.atm, ?_, ?_, ?_, ?_⟩, ?_, hwg _ rfl, bprf⟩
    · have e1 : (setS (withC sC [-p]) (-p) (sC.clauses.length : Int)).proof = s.proof ++ [c] := bprf
      rw [e1]
      exact (okf.assuming fun l hl => Run.sound hh hs l hl).room (by rw [hpl2]; omega) (by rw [hpl2]; omega)
    · refine Cov.ext (s := withC sC [-p]) (cov_withC _ q1) (fun _ => ⟨.rfl, fun _ => .rfl⟩) ?_
      show (sC.trail ++ [-p]).take q = sC.trail.take q
      rw [List.take_append_of_le_length (by omega)]
    · rw [hlen2, List.length_append]; omega
    · have e1 : (setS (withC sC [-p]) (-p) (sC.clauses.length : Int)).proof = s.proof ++ [c] := bprf
      rw [e1]; exact hs
    · have e1 : (setS (withC sC [-p]) (-p) (sC.clauses.length : Int)).proof = s.proof ++ [c] := bprf
      rw [e1]; exact hpl
    · show sC.active.length = n
      rw [bact]; exact hact
    · show (withC sC [-p]).clauses.length ≤ N0 + sC.proof.length
      rw [len_withC, bcls, bprf, hpl2]
      have := h.cls; omega
    · have e1 : (setS (withC sC [-p]) (-p) (sC.clauses.length : Int)).proof = s.proof ++ [c] := bprf
      rw [e1]; exact hchain
    · have e1 : (setS (withC sC [-p]) (-p) (sC.clauses.length : Int)).proof = s.proof ++ [c] := bprf
      rw [e1, hpl2]
      have := hwg (setS (withC sC [-p]) (-p) (sC.clauses.length : Int)) rfl
      have := h.few
      omega
    · have e1 : (setS (withC sC [-p]) (-p) (sC.clauses.length : Int)).head.toNat = sC.trail.length := by show sC.head.toNat = _; rw [bhd]; rfl
      rw [e1]
      exact (bpro.short (c := [-p]) (by simp)).setS (Nat.le_refl _)
  · have hex : ∃ l ∈ ls, levA s l = bk := by
      rcases hL.bk with ⟨e, _⟩ | e
      · exact absurd e hls
      · exact e
    obtain ⟨k1, a1, a2, a3, a4⟩ : ∃ k1, 1 ≤ k1 ∧ k1 < c.length ∧ levA s (g c k1) = bk ∧ c' = swp c 1 k1 := by
      rcases hw with e | ⟨e, _⟩
      · exact e
      · exfalso
        obtain ⟨l, l1, l2⟩ := hex
        obtain ⟨i, i1, i2⟩ := mem_iff_g.1 l1
        have e2 : g c (i + 1) = l := by rw [hc]; exact i2
        exact e (i + 1) (by omega) (by rw [hc]; simp; omega) (by rw [e2]; exact l2)
    have hperm : c'.Perm c := by
      rw [a4]
      exact (Mix.swap (a := 0) (b := c.length) c 1 k1 (by omega) (by omega) (by omega) a2 (Nat.le_refl _)).perm
    have g0 : g c' 0 = -p := by
      rw [a4]
      have := g_swp c 1 k1 0 (by omega) a2
      rw [if_neg (by omega), if_neg (by omega)] at this
      rw [show swp c 1 (k1 : Int) = swp c ((1 : Nat) : Int) (k1 : Int) from rfl, this, hc]
      rfl
    have g1 : g c' 1 = g c k1 := by
      rw [a4]
      have := g_swp c 1 k1 1 (by omega) a2
      rw [show swp c 1 (k1 : Int) = swp c ((1 : Nat) : Int) (k1 : Int) from rfl, this]
      by_cases e : 1 = k1
      · rw [if_pos e, e]
      · rw [if_neg e, if_pos rfl]
    have hlen' : c'.length = c.length := hperm.length_eq
    obtain ⟨c1, rr, hcc⟩ : ∃ c1 rr, c' = -p :: c1 :: rr := by
      match hq : c', hlen', g0 with
      | [], e, _ => simp at e; omega
      | [a], e, _ => simp at e; omega
      | a :: b :: rr, e, e0 => exact ⟨b, rr, by rw [show a = -p from e0]⟩
    have hc1 : c1 = g c k1 := by rw [← g1, hcc]; rfl
    have hc1m : c1 ∈ ls := by
      have h1 : c1 ∈ c := by rw [hc1]; exact g_mem a2
      rw [hc] at h1
      rcases List.mem_cons.1 h1 with e | e
      · exfalso
        have hnd' : c'.Nodup := hperm.nodup_iff.2 hnd
        rw [hcc, e] at hnd'
        simp at hnd'
      · exact e
    subst hcc
    have hlit' : ∀ l ∈ -p :: c1 :: rr, Lit n l ∧ l ≠ 0 := fun l hl => hlit l (hperm.mem_iff.1 hl)
    have hnd' : (-p :: c1 :: rr).Nodup := hperm.nodup_iff.2 hnd
    have hsrc' : ∃ d ∈ Φ0 ++ (s.proof ++ [c]), ∀ x, x ∈ d ↔ x ∈ -p :: c1 :: rr := ⟨c, hcon, fun x => hperm.mem_iff.symm⟩
    have ok2 := bok.add2 (c0 := -p) (c1 := c1) (r := rr) hlit' (by rw [bcls]; have := h.cls; omega) (by omega) hnd' hsrc' fun x hx => by
      refine ⟨fun hm => ?_, fun hm => ?_⟩
      · rw [Int.neg_neg] at hm
        have := List.mem_of_mem_take hm
        rw [btr] at this
        exact hpn this
      · obtain ⟨t, t1, t2, t3⟩ := mem_take_iff.1 hm
        have t2' : t < s.trail.length := by omega
        have t3' : g s.trail t = -c1 := by rw [← t3, btr, g_take (by omega)]
        have hlv := h.hist.lev t t2'
        rw [t3', levA_neg, hc1, a3, b2] at hlv
        obtain ⟨i, hi, rfl⟩ := List.mem_iff_getElem.1 hx
        rw [List.length_take] at hi
        rw [List.getElem_take] at t1
        have h5 := lvl_lt (ks := ks) (j := i) (t := t) h.hist.ord (by omega)
        have h6 : lvl ks t ≤ i := by
          have h7 : ks.filter (· ≤ t) = (ks.take i).filter (· ≤ t) := by
            conv => lhs; rw [← List.take_append_drop i ks]
            rw [List.filter_append]
            have : (ks.drop i).filter (· ≤ t) = [] := by
              rw [List.filter_eq_nil_iff]
              intro z hz
              obtain ⟨y, hy, rfl⟩ := List.mem_iff_getElem.1 hz
              rw [List.length_drop] at hy
              rw [List.getElem_drop]
              have : ks[i] ≤ ks[i + y] := by
                by_cases e : y = 0
                · subst e; exact Nat.le_refl _
                · exact Nat.le_of_lt (List.pairwise_iff_getElem.1 h.hist.ord i (i + y) (by omega) (by omega) (by omega))
              simp only [decide_eq_true_eq]
              omega
            rw [this, List.append_nil]
          unfold lvl
          rw [h7]
          exact Nat.le_trans (List.length_filter_le _ _) (by rw [List.length_take]; omega)
        omega
    have eA : addS sC (-p :: c1 :: rr) = (add2 sC (-p) c1 rr, true) := rfl
    have eL : learnS sC (-p :: c1 :: rr) = setS (add2 sC (-p) c1 rr) (-p) sC.clauses.length := by
      unfold learnS; rw [if_pos (by simp)]; rfl
    have hh0 : Hist (add2 sC (-p) c1 rr) n (ks.take j) := bhist.more (c := -p :: c1 :: rr) rfl rfl rfl rfl rfl rfl
    have ecl : cl (add2 sC (-p) c1 rr) (sC.clauses.length : Int) = -p :: c1 :: rr := (cw_withC (s := sC) (-p :: c1 :: rr) sC.clauses.length).trans (if_pos rfl)
    have hfal : ∀ m ∈ -p :: c1 :: rr, m = -p ∨ -m ∈ sC.trail := fun m hm => by
      have h1 := hperm.mem_iff.1 hm
      rw [hc] at h1
      exact (List.mem_cons.1 h1).imp id (hfalse m)
    have hh : Hist (setS (add2 sC (-p) c1 rr) (-p) sC.clauses.length) n (ks.take j) := hh0.set L0 Z0 of0 fun _ => ⟨Int.natCast_nonneg _, by show sC.clauses.length < (withC sC (-p :: c1 :: rr)).clauses.length; rw [len_withC]; omega, by rw [ecl]; simp, fun m hm => by rw [ecl] at hm; exact hfal m hm⟩
    have hs : Src (Φ0 ++ (s.proof ++ [c])) (setS (add2 sC (-p) c1 rr) (-p) sC.clauses.length) := bsrc.snoc (c := -p :: c1 :: rr) (r := setS (add2 sC (-p) c1 rr) (-p) sC.clauses.length) hsrc' rfl
    have okf := ok2.setS (l := -p) (r := (sC.clauses.length : Int)) L0 Z0 of0 (.unit hcon (by rw [hc]; simp) fun m hm hne => by
      rw [hc] at hm
      rcases List.mem_cons.1 hm with e | e
      · exact absurd e hne
      · exact bok.sound _ (hfalse m e))
    have e1 : (setS (add2 sC (-p) c1 rr) (-p) (sC.clauses.length : Int)).proof = s.proof ++ [c] := bprf
    have etr : (setS (add2 sC (-p) c1 rr) (-p) (sC.clauses.length : Int)).trail = sC.trail ++ [-p] := rfl
    rw [eL]
    refine ⟨rfl, ⟨?_, ⟨q, ?_, ?_, q3'⟩, hh, ?_, h.nz, ?_, batm.trans h.atm, ?_, ?_, ?_, ?_⟩, ?_, hwg _ rfl, bprf⟩
    · rw [e1]
      have e2 : 2 * (N0 + (s.proof ++ [c]).length) = 2 * (N0 + s.proof.length) + 2 := by rw [hpl2]; omega
      rw [e2]
      exact okf.assuming fun l hl => Run.sound hh hs l hl
    · refine Cov.ext (s := withC sC (-p :: c1 :: rr)) (cov_withC _ q1) (fun _ => ⟨.rfl, fun _ => .rfl⟩) ?_
      show (sC.trail ++ [-p]).take q = sC.trail.take q
      rw [List.take_append_of_le_length (by omega)]
    · rw [etr, List.length_append]; omega
    · rw [e1]; exact hs
    · rw [e1]; exact hpl
    · show sC.active.length = n
      rw [bact]; exact hact
    · show (withC sC (-p :: c1 :: rr)).clauses.length ≤ N0 + sC.proof.length
      rw [len_withC, bcls, bprf, hpl2]
      have := h.cls; omega
    · rw [e1]; exact hchain
    · rw [e1, hpl2]
      have := hwg (setS (add2 sC (-p) c1 rr) (-p) (sC.clauses.length : Int)) rfl
      have := h.few
      omega
    · have e3 : (setS (add2 sC (-p) c1 rr) (-p) (sC.clauses.length : Int)).head.toNat = sC.trail.length := by show sC.head.toNat = _; rw [bhd]; rfl
      rw [e3]
      exact bpro.learn fun hm => by
        rw [Int.neg_neg, btr] at hm
        exact hpn hm
end
end Go.Proofs.Ytcahhbcehnbdkaa.Sv

/- Walks of Check and what it calls. -/
namespace Go.Proofs.Ytcahhbcehnbdkaa.Sv
open Go.RowKit Go.Proofs.YtcahhbcehnbdkaaW.PrintWords Go.Proofs.YtcahhbcehnbdkaaW.PrintLast Go.Proofs.Ytcahhbcehnbdkaa.Eng

/-- Rows of rows of numbers that are only read. -/
def Rws (w : World) (B : Nat) (v : Value) (cs : List (List Int)) : Prop :=
  ∃ A cap, v = .slice A cs.length cap ∧ ∀ i, i < cs.length → ∃ ad u, A = some ad ∧ ad.block < B ∧ w.cell? (ad.add i) = some u ∧ Row w B u (cs.getD i [])
theorem Rws.fr {w w' : World} {B : Nat} {v : Value} {cs : List (List Int)} {F : Nat → Prop} (h : Rws w B v cs) (hf : Fr F w w') (hb : ∀ k, k < B → ¬ F k) : Rws w' B v cs := by
  obtain ⟨A, cap, rfl, h1⟩ := h
  refine ⟨A, cap, rfl, fun i hi => ?_⟩
  obtain ⟨ad, u, e1, e2, e3, e4⟩ := h1 i hi
  exact ⟨ad, u, e1, e2, hf.cell e3 (by rw [add_block]; exact hb _ e2), e4.fr hf hb⟩
def longB (c : List Int) : Bool := decide (5000 < c.length)
def knownB (a l : Int) : Bool := !(decide (l = 0) || decide (a < l) || decide (l < -a))
def checkV (a : Int) (cs : List (List Int)) : Int := if 5000 < a ∨ 20000 < cs.length ∨ cs.any longB = true then 4 else if a < 0 ∨ (cs.all fun c => c.all (knownB a)) = false then 8 else 0

section
variable {w : World} {B : Nat}
theorem long_calls {v : Value} {c : List Int} (h : Row w B v c) : Calls Try.prog 24 #[v] w fun e w' => e = .returned (.bool (longB c)) ∧ w = w' := by
  obtain ⟨A, cap, rfl, _⟩ := h
  refine calls_of_FC (N := 6) (vs := [.slice A c.length cap]) Try.func24 rfl Try.ntmps24 (Nat.le_of_ble_eq_true rfl) ?_
  refine FC.seq (FC.region ?_)
  refine sg_ rfl rfl rfl ?_
  refine FL.nilK ?_
  refine FC.seq (FC.region ?_)
  refine mv_ rfl rfl rfl ?_
  refine FL.pur rfl rfl (p_len rfl Try.underlying41) ?_
  refine FL.pur rfl rfl (p_gtr rfl rfl (show decide ((5000 : Int) < (c.length : Int)) = longB c by unfold longB; rw [decide_eq_decide]; omega)) ?_
  refine sg_ rfl rfl rfl ?_
  refine FL.nilK ?_
  refine FC.ret ?_
  repeat with_reducible first | refine thn_ret ?_ | refine blk_ret ?_ | refine nog_ret ?_
  exact ret1 Try.results24 rfl ⟨rfl, rfl⟩
theorem any_take (p : List Int → Bool) (cs : List (List Int)) (i : Nat) (hi : i < cs.length) (h : (cs.take i).any p = false) : (cs.take (i + 1)).any p = p (cs.getD i []) := by
  rw [List.take_add_one, List.any_append, h, List.getElem?_eq_getElem hi, List.getD_eq_getElem?_getD, List.getElem?_eq_getElem hi]
  simp
theorem index_calls {v : Value} {cs : List (List Int)} (h : Rws w B v cs) (hl : cs.length < 4611686018427387904) : Calls Try.prog 43 #[v, .func (.func 24) #[] #[]] w fun e w' => (∃ i : Int, e = .returned (.int .i64 i) ∧ decide (0 ≤ i) = cs.any longB) ∧ w = w' := by
  obtain ⟨A, cap, rfl, hcell⟩ := h
  refine calls_of_FC (N := 19) (vs := [.slice A cs.length cap, .func (.func 24) #[] #[]]) Try.func43 rfl Try.ntmps43 (Nat.le_of_ble_eq_true rfl) ?_
  refine FC.seq (FC.region ?_)
  refine sg_ rfl rfl rfl ?_
  refine FL.nilK ?_
  refine FC.cut (σ := Unit) (fun _ => []) (fun _ w2 => w = w2 ∧ cs.any longB = false) ?_ ?_
  · refine FC.seq (FC.region ?_)
    refine mv_ rfl rfl rfl ?_
    refine FL.pur rfl rfl (p_len rfl Try.underlying22) ?_
    refine mv_ rfl rfl rfl ?_
    refine FL.nilK ?_
    refine FC.block ?_
    refine FC.loop (σ := Nat) (fun x => [(0, .slice A cs.length cap), (1, .func (.func 24) #[] #[]), (7, .int .i64 cs.length), (8, .int .i64 x)]) (fun x w2 => w = w2 ∧ x ≤ cs.length ∧ (cs.take x).any longB = false) (fun x => cs.length - x) 0 ⟨rfl, Nat.zero_le _, rfl⟩ ⟨rfl, rfl, rfl, rfl, trivial⟩ ?_
    rintro i w2 ⟨rfl, hi, hn⟩
    refine FC.seq (FC.region ?_)
    refine FL.pur rfl rfl (p_lss rfl rfl rfl) ?_
    refine FL.nilK ?_
    refine FC.seq ?_
    refine FC.cond (decide ((i : Int) < (cs.length : Int))) rfl (fun hcc => FC.skip (thn_normal ?_)) (fun hcc => FC.exit ?_)
    rotate_left
    · have hge : ¬ (i : Int) < (cs.length : Int) := of_decide_eq_false hcc
      rw [List.take_of_length_le (by omega)] at hn
      exact thn_exit (thn_exit (blk_exit ⟨(), trivial, rfl, hn⟩))
    have hlt : i < cs.length := by have := of_decide_eq_true hcc; omega
    obtain ⟨ad, u, rfl, _, hc0, hrow⟩ := hcell i hlt
    have hc1 : w.cell? (ad.add (i : Int).toNat) = some u := hc0
    refine FC.seq ?_
    refine FC.block ?_
    refine FC.seq (FC.region ?_)
    refine mv_ rfl rfl rfl ?_
    refine sg_ rfl rfl rfl ?_
    refine FL.nilK ?_
    refine FC.seq (FC.region ?_)
    refine mv_ rfl rfl rfl ?_
    refine mv_ rfl rfl rfl ?_
    refine mv_ rfl rfl rfl ?_
    refine FL.pur rfl rfl (p_indexA rfl rfl Try.underlying22 inf41_eq inf41_size (by omega) (by omega)) ?_
    refine FL.val _ _ rfl rfl (p_load rfl Try.underlying41 rfl hc1) ?_
    refine FL.call rfl rfl (p_callv (cap := []) rfl Try.func24 rfl rfl rfl) (long_calls hrow) ?_
    rintro e_ w_ ⟨rfl, rfl⟩
    refine ⟨_, rfl, ?_⟩
    refine FL.nilK ?_
    have hst := any_take longB cs i hlt hn
    refine FC.cond (longB (cs.getD i [])) rfl (fun hcc => ?_) (fun hcc => FC.skip ?_)
    · refine FC.seq (FC.region ?_)
      refine mv_ rfl rfl rfl ?_
      refine sg_ rfl rfl rfl ?_
      refine FL.nilK ?_
      refine FC.ret ?_
      repeat with_reducible first | refine thn_ret ?_ | refine blk_ret ?_ | refine nog_ret ?_
      refine ret1 Try.results43 rfl ⟨⟨_, rfl, ?_⟩, rfl⟩
      have h1 : cs.any longB = true := List.any_eq_true.2 ⟨cs.getD i [], mem_getD hlt, hcc⟩
      rw [h1]
      exact decide_eq_true (by omega)
    · rw [hcc] at hst
      refine blk_normal (thn_normal ?_)
      refine FC.region ?_
      refine FL.pur rfl rfl (p_add rfl rfl ((wr (by omega) (by omega)).trans (show (i : Int) + 1 = ((i + 1 : Nat) : Int) by omega))) ?_
      refine mv_ rfl rfl rfl ?_
      refine FL.nil ?_
      exact ⟨i + 1, ⟨rfl, rfl, rfl, rfl, trivial⟩, ⟨rfl, hlt, hst⟩, by show cs.length - (i + 1) < cs.length - i; omega⟩
  rintro - w2 ⟨rfl, hn⟩
  refine FC.seq (FC.region ?_)
  refine sg_ rfl rfl rfl ?_
  refine FL.nilK ?_
  refine FC.ret ?_
  repeat with_reducible first | refine thn_ret ?_ | refine blk_ret ?_ | refine nog_ret ?_
  exact ret1 Try.results43 rfl ⟨⟨-1, rfl, by rw [hn]; rfl⟩, rfl⟩
theorem contains_calls {v : Value} {cs : List (List Int)} (h : Rws w B v cs) (hl : cs.length < 4611686018427387904) : Calls Try.prog 25 #[v, .func (.func 24) #[] #[]] w fun e w' => e = .returned (.bool (cs.any longB)) ∧ w = w' := by
  have h' := h
  obtain ⟨A, cap, rfl, _⟩ := h
  refine calls_of_FC (N := 9) (vs := [.slice A cs.length cap, .func (.func 24) #[] #[]]) Try.func25 rfl Try.ntmps25 (Nat.le_of_ble_eq_true rfl) ?_
  refine FC.seq (FC.region ?_)
  refine sg_ rfl rfl rfl ?_
  refine FL.nilK ?_
  refine FC.seq (FC.region ?_)
  refine mv_ rfl rfl rfl ?_
  refine mv_ rfl rfl rfl ?_
  refine FL.call rfl rfl (p_call Try.func43 rfl rfl rfl) (index_calls h' hl) ?_
  rintro e_ w_ ⟨⟨i, rfl, hi⟩, rfl⟩
  refine ⟨_, rfl, ?_⟩
  refine FL.pur rfl rfl (p_geq rfl rfl hi) ?_
  refine sg_ rfl rfl rfl ?_
  refine FL.nilK ?_
  refine FC.ret ?_
  repeat with_reducible first | refine thn_ret ?_ | refine blk_ret ?_ | refine nog_ret ?_
  exact ret1 Try.results25 rfl ⟨rfl, rfl⟩
theorem all_take {α : Type} (p : α → Bool) (d : α) (c : List α) (k : Nat) (hk : k < c.length) (h : (c.take k).all p = true) : (c.take (k + 1)).all p = p (c.getD k d) := by
  rw [List.take_add_one, List.all_append, h, List.getElem?_eq_getElem hk, List.getD_eq_getElem?_getD, List.getElem?_eq_getElem hk]
  simp
theorem known_calls {v : Value} {cs : List (List Int)} {a : Int} (h : Rws w B v cs) (ha : 0 ≤ a ∧ a ≤ 5000) (hl : cs.length < 4611686018427387904) (hll : ∀ c ∈ cs, c.length < 4611686018427387904) :
    Calls Try.prog 26 #[.int .i64 a, v] w fun e w' => e = .returned (.bool (cs.all fun c => c.all (knownB a))) ∧ w = w' := by
  obtain ⟨A, cap, rfl, hcell⟩ := h
  have bad : ∀ i, i < cs.length → ∀ k, k < (cs.getD i []).length → knownB a (g (cs.getD i []) k) = false → (cs.all fun c => c.all (knownB a)) = false := fun i hi k hk hb => by
    rw [Bool.eq_false_iff]
    intro hall
    have h1 := List.all_eq_true.1 hall _ (mem_getD (d := []) hi)
    have h2 := List.all_eq_true.1 h1 _ (rd_mem (cs.getD i []) k (by omega) (by omega))
    rw [rd_nat, hb] at h2
    cases h2
  refine calls_of_FC (N := 36) (vs := [.int .i64 a, .slice A cs.length cap]) Try.func26 rfl Try.ntmps26 (Nat.le_of_ble_eq_true rfl) ?_
  refine FC.seq (FC.region ?_)
  refine sg_ rfl rfl rfl ?_
  refine FL.nilK ?_
  refine FC.cut (σ := Unit) (fun _ => []) (fun _ w2 => w = w2 ∧ (cs.all fun c => c.all (knownB a)) = true) ?_ ?_
  rotate_left
  · rintro - w2 ⟨rfl, hn⟩
    refine FC.seq (FC.region ?_)
    refine sg_ rfl rfl rfl ?_
    refine FL.nilK ?_
    refine FC.ret ?_
    repeat with_reducible first | refine thn_ret ?_ | refine blk_ret ?_ | refine nog_ret ?_
    exact ret1 Try.results26 rfl ⟨by rw [hn], rfl⟩
  refine FC.seq (FC.region ?_)
  refine mv_ rfl rfl rfl ?_
  refine FL.pur rfl rfl (p_len rfl Try.underlying22) ?_
  refine mv_ rfl rfl rfl ?_
  refine FL.nilK ?_
  refine FC.block ?_
  refine FC.loop (σ := Nat) (fun x => [(0, .int .i64 a), (1, .slice A cs.length cap), (9, .slice A cs.length cap), (10, .int .i64 cs.length), (11, .int .i64 x)]) (fun x w2 => w = w2 ∧ x ≤ cs.length ∧ ((cs.take x).all fun c => c.all (knownB a)) = true) (fun x => cs.length - x) 0 ⟨rfl, Nat.zero_le _, rfl⟩ ⟨rfl, rfl, rfl, rfl, rfl, trivial⟩ ?_
  rintro i w2 ⟨rfl, hi, hn⟩
  refine FC.seq (FC.region ?_)
  refine FL.pur rfl rfl (p_lss rfl rfl rfl) ?_
  refine FL.nilK ?_
  refine FC.seq ?_
  refine FC.cond (decide ((i : Int) < (cs.length : Int))) rfl (fun hcc => FC.skip (thn_normal ?_)) (fun hcc => FC.exit ?_)
  rotate_left
  · have hge : ¬ (i : Int) < (cs.length : Int) := of_decide_eq_false hcc
    rw [List.take_of_length_le (by omega)] at hn
    exact thn_exit (thn_exit (blk_exit ⟨(), trivial, rfl, hn⟩))
  have hlt : i < cs.length := by have := of_decide_eq_true hcc; omega
  obtain ⟨ad, u, rfl, _, hc0, hrow⟩ := hcell i hlt
  have hc1 : w.cell? (ad.add i) = some u := hc0
  have hln := hll _ (mem_getD (d := []) hlt)
  have hst := all_take (fun c => c.all (knownB a)) [] cs i hlt hn
  obtain ⟨c, hc⟩ : ∃ c, c = cs.getD i [] := ⟨_, rfl⟩
  have bad := bad i hlt
  rw [← hc] at hrow hln hst bad
  obtain ⟨A2, cap2, rfl, hcell2⟩ := hrow
  refine FC.seq ?_
  refine FC.block ?_
  refine FC.seq (FC.region ?_)
  refine FL.pur rfl rfl (p_indexA rfl rfl Try.underlying22 inf41_eq inf41_size (by omega) (by omega)) ?_
  refine FL.val _ _ rfl rfl (p_load rfl Try.underlying41 rfl hc1) ?_
  refine sg_ rfl rfl rfl ?_
  refine FL.nilK ?_
  refine FC.seq (FC.region ?_)
  refine mv_ rfl rfl rfl ?_
  refine FL.pur rfl rfl (p_len rfl Try.underlying41) ?_
  refine mv_ rfl rfl rfl ?_
  refine FL.nilK ?_
  refine FC.block ?_
  refine FC.loop (σ := Nat) (fun x => [(0, .int .i64 a), (1, .slice (some ad) cs.length cap), (9, .slice (some ad) cs.length cap), (10, .int .i64 cs.length), (11, .int .i64 i), (15, .slice A2 c.length cap2), (16, .int .i64 c.length), (17, .int .i64 x)]) (fun x w2 => w = w2 ∧ x ≤ c.length ∧ (c.take x).all (knownB a) = true) (fun x => c.length - x) 0 ⟨rfl, Nat.zero_le _, rfl⟩ ⟨rfl, rfl, rfl, rfl, rfl, rfl, rfl, rfl, trivial⟩ ?_
  rintro k w2 ⟨rfl, hk, hkn⟩
  refine FC.seq (FC.region ?_)
  refine FL.pur rfl rfl (p_lss rfl rfl rfl) ?_
  refine FL.nilK ?_
  refine FC.seq ?_
  refine FC.cond (decide ((k : Int) < (c.length : Int))) rfl (fun hcc => FC.skip (thn_normal ?_)) (fun hcc => FC.exit ?_)
  rotate_left
  · have hge : ¬ (k : Int) < (c.length : Int) := of_decide_eq_false hcc
    rw [List.take_of_length_le (by omega)] at hkn
    refine thn_exit (thn_exit (blk_exit (blk_normal (thn_normal ?_))))
    refine FC.region ?_
    refine FL.pur rfl rfl (p_add rfl rfl ((wr (by omega) (by omega)).trans (show (i : Int) + 1 = ((i + 1 : Nat) : Int) by omega))) ?_
    refine mv_ rfl rfl rfl ?_
    refine FL.nil ?_
    exact ⟨i + 1, ⟨rfl, rfl, rfl, rfl, rfl, trivial⟩, ⟨rfl, hlt, hst.trans hkn⟩, by show cs.length - (i + 1) < cs.length - i; omega⟩
  have hklt : k < c.length := by have := of_decide_eq_true hcc; omega
  obtain ⟨ad2, rfl, _, hc2⟩ := hcell2 k hklt
  have hc3 : w.cell? (ad2.add k) = some (.int .i64 (g c k)) := hc2
  have hst2 := all_take (knownB a) 0 c k hklt hkn
  obtain ⟨l, hl⟩ : ∃ l, l = g c k := ⟨_, rfl⟩
  have bad := bad k hklt
  rw [← hl] at hc3 bad
  rw [show c.getD k 0 = l from hl.symm] at hst2
  have hna : (IntKind.i64.wrap (-a)) = -a := wr (by omega) (by omega)
  refine FC.seq ?_
  refine FC.block ?_
  refine FC.seq (FC.region ?_)
  refine FL.pur rfl rfl (p_indexA rfl rfl Try.underlying41 inf3_eq inf3_size (by omega) (by omega)) ?_
  refine FL.val _ _ rfl rfl (p_load rfl Try.underlying3 rfl hc3) ?_
  refine sg_ rfl rfl rfl ?_
  refine FL.nilK ?_
  by_cases l0 : l = 0
  · refine FC.seq (FC.region ?_)
    refine mv_ rfl rfl rfl ?_
    refine FL.pur rfl rfl (p_eql rfl rfl (decide_eq_true l0)) ?_
    refine mv_ rfl rfl rfl ?_
    refine FL.off rfl rfl ?_
    refine FL.off rfl rfl ?_
    refine FL.off rfl rfl ?_
    refine FL.pur rfl rfl (p_pick_t rfl rfl) ?_
    refine mv_ rfl rfl rfl ?_
    refine FL.off rfl rfl ?_
    refine FL.off rfl rfl ?_
    refine FL.off rfl rfl ?_
    refine FL.off rfl rfl ?_
    refine FL.pur rfl rfl (p_pick_t rfl rfl) ?_
    refine FL.nilK ?_
    refine FC.cond_t rfl ?_
    refine FC.seq (FC.region ?_)
    refine sg_ rfl rfl rfl ?_
    refine FL.nilK ?_
    refine FC.ret ?_
    repeat with_reducible first | refine thn_ret ?_ | refine blk_ret ?_ | refine nog_ret ?_
    exact ret1 Try.results26 rfl ⟨by rw [bad (by simp [knownB, l0])], rfl⟩
  by_cases l1 : a < l
  · refine FC.seq (FC.region ?_)
    refine mv_ rfl rfl rfl ?_
    refine FL.pur rfl rfl (p_eql rfl rfl (decide_eq_false l0)) ?_
    refine mv_ rfl rfl rfl ?_
    refine mv_ rfl rfl rfl ?_
    refine mv_ rfl rfl rfl ?_
    refine FL.pur rfl rfl (p_gtr rfl rfl (decide_eq_true l1)) ?_
    refine FL.pur rfl rfl (p_pick_f rfl rfl) ?_
    refine mv_ rfl rfl rfl ?_
    refine FL.off rfl rfl ?_
    refine FL.off rfl rfl ?_
    refine FL.off rfl rfl ?_
    refine FL.off rfl rfl ?_
    refine FL.pur rfl rfl (p_pick_t rfl rfl) ?_
    refine FL.nilK ?_
    refine FC.cond_t rfl ?_
    refine FC.seq (FC.region ?_)
    refine sg_ rfl rfl rfl ?_
    refine FL.nilK ?_
    refine FC.ret ?_
    repeat with_reducible first | refine thn_ret ?_ | refine blk_ret ?_ | refine nog_ret ?_
    exact ret1 Try.results26 rfl ⟨by rw [bad (by simp [knownB, l1])], rfl⟩
  refine FC.seq (FC.region ?_)
  refine mv_ rfl rfl rfl ?_
  refine FL.pur rfl rfl (p_eql rfl rfl (decide_eq_false l0)) ?_
  refine mv_ rfl rfl rfl ?_
  refine mv_ rfl rfl rfl ?_
  refine mv_ rfl rfl rfl ?_
  refine FL.pur rfl rfl (p_gtr rfl rfl (decide_eq_false l1)) ?_
  refine FL.pur rfl rfl (p_pick_f rfl rfl) ?_
  refine mv_ rfl rfl rfl ?_
  refine mv_ rfl rfl rfl ?_
  refine mv_ rfl rfl rfl ?_
  refine FL.pur rfl rfl (p_neg rfl hna) ?_
  refine FL.pur rfl rfl (p_lss rfl rfl rfl) ?_
  refine FL.pur rfl rfl (p_pick_f rfl rfl) ?_
  refine FL.nilK ?_
  refine FC.cond (decide (l < -a)) rfl (fun hcc => ?_) (fun hcc => FC.skip ?_)
  · refine FC.seq (FC.region ?_)
    refine sg_ rfl rfl rfl ?_
    refine FL.nilK ?_
    refine FC.ret ?_
    repeat with_reducible first | refine thn_ret ?_ | refine blk_ret ?_ | refine nog_ret ?_
    exact ret1 Try.results26 rfl ⟨by rw [bad (by unfold knownB; rw [hcc]; simp)], rfl⟩
  · refine blk_normal (thn_normal ?_)
    refine FC.region ?_
    refine FL.pur rfl rfl (p_add rfl rfl ((wr (by omega) (by omega)).trans (show (k : Int) + 1 = ((k + 1 : Nat) : Int) by omega))) ?_
    refine mv_ rfl rfl rfl ?_
    refine FL.nil ?_
    have hk1 : knownB a l = true := by unfold knownB; rw [hcc, decide_eq_false l0, decide_eq_false l1]; rfl
    exact ⟨k + 1, ⟨rfl, rfl, rfl, rfl, rfl, rfl, rfl, rfl, trivial⟩, ⟨rfl, hklt, hst2.trans hk1⟩, by show c.length - (k + 1) < c.length - k; omega⟩
theorem check_calls {v : Value} {cs : List (List Int)} (a : Int) (h : Rws w B v cs) (hl : cs.length < 4611686018427387904) (hll : ∀ c ∈ cs, c.length < 4611686018427387904) :
    Calls Try.prog 12 #[.int .i64 a, v] w fun e w' => e = .returned (.int .i64 (checkV a cs)) ∧ w = w' := by
  have h' := h
  obtain ⟨A, cap, rfl, _⟩ := h
  refine calls_of_FC (N := 26) (vs := [.int .i64 a, .slice A cs.length cap]) Try.func12 rfl Try.ntmps12 (Nat.le_of_ble_eq_true rfl) ?_
  refine FC.seq (FC.region ?_)
  refine sg_ rfl rfl rfl ?_
  refine FL.nilK ?_
  refine FC.seq (FC.region ?_)
  refine sg_ rfl rfl rfl ?_
  refine FL.nilK ?_
  have hmany : (5000 < a ∨ 20000 < cs.length ∨ cs.any longB = true) → checkV a cs = 4 := fun h => by unfold checkV; rw [if_pos h]
  refine FC.seq ?_
  by_cases c1 : 5000 < a
  · refine FC.seq (FC.region ?_)
    refine mv_ rfl rfl rfl ?_
    refine FL.pur rfl rfl (p_gtr rfl rfl (decide_eq_true c1)) ?_
    refine mv_ rfl rfl rfl ?_
    refine FL.off rfl rfl ?_
    refine FL.off rfl rfl ?_
    refine FL.off rfl rfl ?_
    refine FL.pur rfl rfl (p_pick_t rfl rfl) ?_
    refine mv_ rfl rfl rfl ?_
    refine FL.off rfl rfl ?_
    refine FL.off rfl rfl ?_
    refine FL.off rfl rfl ?_
    refine FL.pur rfl rfl (p_pick_t rfl rfl) ?_
    refine FL.nilK ?_
    refine FC.cond_t rfl ?_
    refine FC.seq (FC.region ?_)
    refine sg_ rfl rfl rfl ?_
    refine FL.nilK ?_
    refine FC.ret ?_
    repeat with_reducible first | refine thn_ret ?_ | refine blk_ret ?_ | refine nog_ret ?_
    exact ret1 Try.results12 rfl ⟨by rw [hmany (.inl c1)], rfl⟩
  by_cases c2 : 20000 < cs.length
  · refine FC.seq (FC.region ?_)
    refine mv_ rfl rfl rfl ?_
    refine FL.pur rfl rfl (p_gtr rfl rfl (decide_eq_false c1)) ?_
    refine mv_ rfl rfl rfl ?_
    refine mv_ rfl rfl rfl ?_
    refine FL.pur rfl rfl (p_len rfl Try.underlying22) ?_
    refine FL.pur rfl rfl (p_gtr rfl rfl (decide_eq_true (by omega))) ?_
    refine FL.pur rfl rfl (p_pick_f rfl rfl) ?_
    refine mv_ rfl rfl rfl ?_
    refine FL.off rfl rfl ?_
    refine FL.off rfl rfl ?_
    refine FL.off rfl rfl ?_
    refine FL.pur rfl rfl (p_pick_t rfl rfl) ?_
    refine FL.nilK ?_
    refine FC.cond_t rfl ?_
    refine FC.seq (FC.region ?_)
    refine sg_ rfl rfl rfl ?_
    refine FL.nilK ?_
    refine FC.ret ?_
    repeat with_reducible first | refine thn_ret ?_ | refine blk_ret ?_ | refine nog_ret ?_
    exact ret1 Try.results12 rfl ⟨by rw [hmany (.inr (.inl c2))], rfl⟩
  refine FC.seq (FC.region ?_)
  refine mv_ rfl rfl rfl ?_
  refine FL.pur rfl rfl (p_gtr rfl rfl (decide_eq_false c1)) ?_
  refine mv_ rfl rfl rfl ?_
  refine mv_ rfl rfl rfl ?_
  refine FL.pur rfl rfl (p_len rfl Try.underlying22) ?_
  refine FL.pur rfl rfl (p_gtr rfl rfl (decide_eq_false (by omega))) ?_
  refine FL.pur rfl rfl (p_pick_f rfl rfl) ?_
  refine mv_ rfl rfl rfl ?_
  refine mv_ rfl rfl rfl ?_
  refine mv_ rfl rfl rfl ?_
  refine FL.call rfl rfl (p_call Try.func25 rfl rfl rfl) (contains_calls h' hl) ?_
  rintro e_ w_ ⟨rfl, rfl⟩
  refine ⟨_, rfl, ?_⟩
  refine FL.pur rfl rfl (p_pick_f rfl rfl) ?_
  refine FL.nilK ?_
  refine FC.cond (cs.any longB) rfl (fun c3 => ?_) (fun c3 => FC.skip (thn_normal ?_))
  · have hq : True := trivial
    refine FC.seq (FC.region ?_)
    refine sg_ rfl rfl rfl ?_
    refine FL.nilK ?_
    refine FC.ret ?_
    repeat with_reducible first | refine thn_ret ?_ | refine blk_ret ?_ | refine nog_ret ?_
    exact ret1 Try.results12 rfl ⟨by rw [hmany (.inr (.inr c3))], rfl⟩
  have hno : ¬ (5000 < a ∨ 20000 < cs.length ∨ cs.any longB = true) := fun h => h.elim c1 fun h => h.elim c2 fun h => by rw [c3] at h; cases h
  have hbad : (a < 0 ∨ (cs.all fun c => c.all (knownB a)) = false) → checkV a cs = 8 := fun h => by unfold checkV; rw [if_neg hno, if_pos h]
  refine FC.seq ?_
  by_cases c4 : a < 0
  · refine FC.seq (FC.region ?_)
    refine mv_ rfl rfl rfl ?_
    refine FL.pur rfl rfl (p_lss rfl rfl (decide_eq_true c4)) ?_
    refine mv_ rfl rfl rfl ?_
    refine FL.off rfl rfl ?_
    refine FL.off rfl rfl ?_
    refine FL.off rfl rfl ?_
    refine FL.off rfl rfl ?_
    refine FL.pur rfl rfl (p_pick_t rfl rfl) ?_
    refine FL.nilK ?_
    refine FC.cond_t rfl ?_
    refine FC.seq (FC.region ?_)
    refine sg_ rfl rfl rfl ?_
    refine FL.nilK ?_
    refine FC.ret ?_
    repeat with_reducible first | refine thn_ret ?_ | refine blk_ret ?_ | refine nog_ret ?_
    exact ret1 Try.results12 rfl ⟨by rw [hbad (.inl c4)], rfl⟩
  refine FC.seq (FC.region ?_)
  refine mv_ rfl rfl rfl ?_
  refine FL.pur rfl rfl (p_lss rfl rfl (decide_eq_false c4)) ?_
  refine mv_ rfl rfl rfl ?_
  refine mv_ rfl rfl rfl ?_
  refine mv_ rfl rfl rfl ?_
  refine FL.call rfl rfl (p_call Try.func26 rfl rfl rfl) (known_calls (a := a) h' ⟨by omega, by omega⟩ hl hll) ?_
  rintro e_ w_ ⟨rfl, rfl⟩
  refine ⟨_, rfl, ?_⟩
  refine FL.pur rfl rfl (p_not rfl) ?_
  refine FL.pur rfl rfl (p_pick_f rfl rfl) ?_
  refine FL.nilK ?_
  refine FC.cond (!(cs.all fun c => c.all (knownB a))) rfl (fun c5 => ?_) (fun c5 => FC.skip (thn_normal ?_))
  · have hq : True := trivial
    refine FC.seq (FC.region ?_)
    refine sg_ rfl rfl rfl ?_
    refine FL.nilK ?_
    refine FC.ret ?_
    repeat with_reducible first | refine thn_ret ?_ | refine blk_ret ?_ | refine nog_ret ?_
    exact ret1 Try.results12 rfl ⟨by rw [hbad (.inr (by simpa using c5))], rfl⟩
  have hok : checkV a cs = 0 := by
    unfold checkV
    rw [if_neg hno, if_neg fun h => h.elim c4 fun h => by rw [h] at c5; cases c5]
  refine FC.seq (FC.region ?_)
  refine sg_ rfl rfl rfl ?_
  refine FL.nilK ?_
  refine FC.ret ?_
  repeat with_reducible first | refine thn_ret ?_ | refine blk_ret ?_ | refine nog_ret ?_
  exact ret1 Try.results12 rfl ⟨by rw [hok], rfl⟩
end
end Go.Proofs.Ytcahhbcehnbdkaa.Sv

/- Walk of Refutes. -/
namespace Go.Proofs.Ytcahhbcehnbdkaa.Sv
open Go.RowKit Go.Proofs.YtcahhbcehnbdkaaW.PrintWords Go.Proofs.YtcahhbcehnbdkaaW.PrintLast Go.Proofs.Ytcahhbcehnbdkaa.Eng

/-- What it means that a list of clauses is a refutation. -/
def RefSpec (a : Int) (cs ps : List (List Int)) : Prop :=
  checkV a cs = 0 ∧ ps.length ≤ 20000 ∧ checkV a ps = 0 ∧ 0 < ps.length ∧ (ps.getD (ps.length - 1) []).length = 0 ∧ ∀ i, i < ps.length → Taut (ps.getD i []) ∨ Conf (cs ++ ps.take i) fun l => -l ∈ ps.getD i []
theorem p_alloc {P : Program} {ρ : Env} {dst : Option Tmp} {ty : TypeId} {pos : String} {af : Array Edge} {gd : Option (Nat × Bool)} {t : TypeId} {inf : TypeInfo} {z : Value} {w : World} (hi : P.info? t = some inf) (hz : inf.zero = some z) (hzc : z.cells = #[z]) :
    Val P ρ ⟨dst, .alloc t, ty, pos, af, gd⟩ w (.pointer (some ⟨w.heap.size, 0, none⟩)) (w.alloc (.cells #[z] t)) := fun a ha => by
  simp [execOp, Instr.alloc, zeroValue, typeInfo, hi, hz, newVar, newRow, newObj, hzc, Sem.run, World.alloc_eq]
theorem inf49_zeroR : inf49.zero = some (.pointer none) := by kernel_rfl
theorem checkV_bad {a : Int} {cs : List (List Int)} (h : checkV a cs = 0) : 0 ≤ a ∧ a ≤ 5000 ∧ cs.length ≤ 20000 ∧ ∀ c ∈ cs, ∀ l ∈ c, l ≠ 0 ∧ -a ≤ l ∧ l ≤ a := by
  unfold checkV at h
  split at h
  · cases h
  · rename_i h1
    split at h
    · cases h
    · rename_i h2
      refine ⟨by omega, by omega, by omega, fun c hc l hl => ?_⟩
      have h3 : (cs.all fun c => c.all (knownB a)) = true := by
        cases e : (cs.all fun c => c.all (knownB a)) with
        | true => rfl
        | false => exact absurd (.inr e) h2
      have h4 := List.all_eq_true.1 (List.all_eq_true.1 h3 c hc) l hl
      simp only [knownB, Bool.not_eq_true', Bool.or_eq_false_iff, decide_eq_false_iff_not] at h4
      omega
section
variable {w : World} {B : Nat}
theorem Box.goes {w w' : World} {B g0 fb sb : Nat} {s s' : S} {V V' : Lay} {f : Bool} (h : Box w B g0 s V fb sb f) (hs : Srch w' B g0 s' V') (hg : Goes g0 V w V' w') : Box w' B g0 s' V' fb sb f := by
  have nF : ∀ k, k < w.heap.size → ¬ foot g0 V k → ¬ foot g0 V' k := fun k hk hn hf => by
    rcases hg.sub k hf with h1 | h1
    · exact hn h1
    · omega
  exact ⟨hs, hg.fr.cell h.fc h.fne, hg.fr.unfr h.fc h.fu h.fne, hg.fr.cell h.sc h.sne, nF fb h.flt h.fne, nF sb h.slt h.sne, h.fs⟩
theorem clause_calls (w : World) (v : Value) : Calls Try.prog 39 #[v] w fun e w' => e = .returned v ∧ w = w' := by
  refine calls_of_FC (N := 4) (vs := [v]) Try.func39 rfl Try.ntmps39 (Nat.le_of_ble_eq_true rfl) ?_
  refine FC.seq (FC.region ?_)
  refine sg_ rfl rfl rfl ?_
  refine FL.nilK ?_
  refine FC.seq (FC.region ?_)
  refine mv_ rfl rfl rfl ?_
  refine sg_ rfl rfl rfl ?_
  refine FL.nilK ?_
  refine FC.ret ?_
  repeat with_reducible first | refine thn_ret ?_ | refine blk_ret ?_ | refine nog_ret ?_
  exact ret1 Try.results39 rfl ⟨rfl, rfl⟩
/-- A new cell, stored into. -/
theorem fresh_cell (w : World) (z v : Value) (t : TypeId) : (w.alloc (.cells #[z] t)).cell? ⟨w.heap.size, 0, none⟩ = some z ∧ (w.alloc (.cells #[z] t)).frozen? ⟨w.heap.size, 0, none⟩ = false ∧
    ((w.alloc (.cells #[z] t)).setCell ⟨w.heap.size, 0, none⟩ v).cell? ⟨w.heap.size, 0, none⟩ = some v ∧ ((w.alloc (.cells #[z] t)).setCell ⟨w.heap.size, 0, none⟩ v).frozen? ⟨w.heap.size, 0, none⟩ = false ∧
    Fr (fun _ => False) w ((w.alloc (.cells #[z] t)).setCell ⟨w.heap.size, 0, none⟩ v) ∧ w.heap.size < ((w.alloc (.cells #[z] t)).setCell ⟨w.heap.size, 0, none⟩ v).heap.size := by
  have h1 : (w.alloc (.cells #[z] t)).cell? ⟨w.heap.size, 0, none⟩ = some z := (cell_of_row _ _ 0 _ _ _ (heap_alloc_new w _)).trans rfl
  have h2 : (w.alloc (.cells #[z] t)).frozen? ⟨w.heap.size, 0, none⟩ = false := blk_frozen (heap_alloc_new w _) 0
  have fs : Fr (fun k => k = w.heap.size) (w.alloc (.cells #[z] t)) ((w.alloc (.cells #[z] t)).setCell ⟨w.heap.size, 0, none⟩ v) := ⟨rfl, rfl, rfl, by rw [setCell_size]; exact Nat.le_refl _, fun k _ hk => Below.heap_setCell _ _ _ k hk⟩
  refine ⟨h1, h2, World.cell?_setCell_same' _ _ _ (by rw [h1]; rfl), by rw [World.frozen?_setCell]; exact h2, (((Fr.refl (fun _ => False) w).alloc _).trans fs fun k hk => .inr (by rw [show k = w.heap.size from hk]; exact Nat.le_refl _)), ?_⟩
  rw [setCell_size]
  simp
theorem box_new {w1 : World} {B0 g0 : Nat} {s : S} {V : Lay} (hs : Srch w1 B0 g0 s V) (w2 w3 : World) (h2 : w2 = (w1.alloc (.cells #[.pointer none] 49)).setCell ⟨w1.heap.size, 0, none⟩ (.pointer (some ⟨g0, 0, none⟩))) (h3 : w3 = (w2.alloc (.cells #[.bool false] 4)).setCell ⟨w2.heap.size, 0, none⟩ (.bool false)) :
    Box w3 B0 g0 s V w2.heap.size w1.heap.size false ∧ Fr (fun _ => False) w1 w3 := by
  obtain ⟨_, _, a3, a4, a5, a6⟩ := fresh_cell w1 (.pointer none) (.pointer (some ⟨g0, 0, none⟩)) 49
  obtain ⟨_, _, b3, b4, b5, b6⟩ := fresh_cell w2 (.bool false) (.bool false) 4
  rw [← h2] at a3 a4 a5 a6
  rw [← h3] at b3 b4 b5 b6
  have f := a5.trans b5 fun _ h => .inl h
  refine ⟨⟨hs.fr f fun _ h => h.elim, b3, b4, b5.cell a3 fun h => h, fun hf => by have := hs.lt hf; omega, fun hf => by have := hs.lt hf; omega, by omega⟩, f⟩
set_option maxHeartbeats 2000000 in
theorem refutes_calls {v1 v2 : Value} {cs ps : List (List Int)} (a : Int) (h1 : Rws w B v1 cs) (h2 : Rws w B v2 ps) (hB : B ≤ w.heap.size) (hl1 : cs.length < 4611686018427387904) (hll1 : ∀ c ∈ cs, c.length < 1099511627776) (hl2 : ps.length < 4611686018427387904) (hll2 : ∀ c ∈ ps, c.length < 1099511627776) :
    Calls Try.prog 16 #[.int .i64 a, v1, v2] w fun e w' => (∃ b : Bool, e = .returned (.bool b) ∧ (b = true ↔ RefSpec a cs ps)) ∧ Fr (fun _ => False) w w' := by
  have h1' := h1
  have h2' := h2
  obtain ⟨A1, cap1, rfl, hc1⟩ := h1
  obtain ⟨A2, cap2, rfl, hc2⟩ := h2
  have k1 := check_calls (w := w) a h1' hl1 fun c hc => by have := hll1 c hc; omega
  have k2 := check_calls (w := w) a h2' hl2 fun c hc => by have := hll2 c hc; omega
  refine calls_of_FC (N := 76) (vs := [.int .i64 a, .slice A1 cs.length cap1, .slice A2 ps.length cap2]) Try.func16 rfl Try.ntmps16 (Nat.le_of_ble_eq_true rfl) ?_
  refine FC.seq (FC.region ?_)
  refine sg_ rfl rfl rfl ?_
  refine FL.nilK ?_
  refine FC.seq ?_
  by_cases c1 : checkV a cs = 0
  rotate_left
  · refine FC.seq (FC.region ?_)
    refine mv_ rfl rfl rfl ?_
    refine mv_ rfl rfl rfl ?_
    refine FL.call rfl rfl (p_call Try.func12 rfl rfl rfl) (k1) ?_
    rintro e_ w_ ⟨rfl, rfl⟩
    refine ⟨_, rfl, ?_⟩
    refine FL.pur rfl rfl (p_neq rfl rfl (show _ = !true by simp [c1])) ?_
    refine mv_ rfl rfl rfl ?_
    refine FL.off rfl rfl ?_
    refine FL.off rfl rfl ?_
    refine FL.off rfl rfl ?_
    refine FL.pur rfl rfl (p_pick_t rfl rfl) ?_
    refine mv_ rfl rfl rfl ?_
    refine FL.off rfl rfl ?_
    refine FL.off rfl rfl ?_
    refine FL.off rfl rfl ?_
    refine FL.off rfl rfl ?_
    refine FL.pur rfl rfl (p_pick_t rfl rfl) ?_
    refine mv_ rfl rfl rfl ?_
    refine FL.off rfl rfl ?_
    refine FL.off rfl rfl ?_
    refine FL.off rfl rfl ?_
    refine FL.pur rfl rfl (p_pick_t rfl rfl) ?_
    refine mv_ rfl rfl rfl ?_
    refine FL.off rfl rfl ?_
    refine FL.off rfl rfl ?_
    refine FL.off rfl rfl ?_
    refine FL.off rfl rfl ?_
    refine FL.off rfl rfl ?_
    refine FL.off rfl rfl ?_
    refine FL.off rfl rfl ?_
    refine FL.off rfl rfl ?_
    refine FL.pur rfl rfl (p_pick_t rfl rfl) ?_
    refine FL.nilK ?_
    refine FC.cond_t rfl ?_
    refine FC.seq (FC.region ?_)
    refine sg_ rfl rfl rfl ?_
    refine FL.nilK ?_
    refine FC.ret ?_
    repeat with_reducible first | refine thn_ret ?_ | refine blk_ret ?_ | refine nog_ret ?_
    exact ret1 Try.results16 rfl ⟨⟨false, rfl, by simp [RefSpec, c1]⟩, Fr.refl _ _⟩
  by_cases c2 : 20000 < ps.length
  · refine FC.seq (FC.region ?_)
    refine mv_ rfl rfl rfl ?_
    refine mv_ rfl rfl rfl ?_
    refine FL.call rfl rfl (p_call Try.func12 rfl rfl rfl) (k1) ?_
    rintro e_ w_ ⟨rfl, rfl⟩
    refine ⟨_, rfl, ?_⟩
    refine FL.pur rfl rfl (p_neq rfl rfl (show _ = !false by simp [c1])) ?_
    refine mv_ rfl rfl rfl ?_
    refine mv_ rfl rfl rfl ?_
    refine FL.pur rfl rfl (p_len rfl Try.underlying22) ?_
    refine FL.pur rfl rfl (p_gtr rfl rfl (decide_eq_true (by omega))) ?_
    refine FL.pur rfl rfl (p_pick_f rfl rfl) ?_
    refine mv_ rfl rfl rfl ?_
    refine FL.off rfl rfl ?_
    refine FL.off rfl rfl ?_
    refine FL.off rfl rfl ?_
    refine FL.off rfl rfl ?_
    refine FL.pur rfl rfl (p_pick_t rfl rfl) ?_
    refine mv_ rfl rfl rfl ?_
    refine FL.off rfl rfl ?_
    refine FL.off rfl rfl ?_
    refine FL.off rfl rfl ?_
    refine FL.pur rfl rfl (p_pick_t rfl rfl) ?_
    refine mv_ rfl rfl rfl ?_
    refine FL.off rfl rfl ?_
    refine FL.off rfl rfl ?_
    refine FL.off rfl rfl ?_
    refine FL.off rfl rfl ?_
    refine FL.off rfl rfl ?_
    refine FL.off rfl rfl ?_
    refine FL.off rfl rfl ?_
    refine FL.off rfl rfl ?_
    refine FL.pur rfl rfl (p_pick_t rfl rfl) ?_
    refine FL.nilK ?_
    refine FC.cond_t rfl ?_
    refine FC.seq (FC.region ?_)
    refine sg_ rfl rfl rfl ?_
    refine FL.nilK ?_
    refine FC.ret ?_
    repeat with_reducible first | refine thn_ret ?_ | refine blk_ret ?_ | refine nog_ret ?_
    exact ret1 Try.results16 rfl ⟨⟨false, rfl, by have : ¬ ps.length ≤ 20000 := by omega
                                                  simp [RefSpec, this]⟩, Fr.refl _ _⟩
  by_cases c3 : checkV a ps = 0
  rotate_left
  · refine FC.seq (FC.region ?_)
    refine mv_ rfl rfl rfl ?_
    refine mv_ rfl rfl rfl ?_
    refine FL.call rfl rfl (p_call Try.func12 rfl rfl rfl) (k1) ?_
    rintro e_ w_ ⟨rfl, rfl⟩
    refine ⟨_, rfl, ?_⟩
    refine FL.pur rfl rfl (p_neq rfl rfl (show _ = !false by simp [c1])) ?_
    refine mv_ rfl rfl rfl ?_
    refine mv_ rfl rfl rfl ?_
    refine FL.pur rfl rfl (p_len rfl Try.underlying22) ?_
    refine FL.pur rfl rfl (p_gtr rfl rfl (decide_eq_false (by omega))) ?_
    refine FL.pur rfl rfl (p_pick_f rfl rfl) ?_
    refine mv_ rfl rfl rfl ?_
    refine mv_ rfl rfl rfl ?_
    refine mv_ rfl rfl rfl ?_
    refine FL.call rfl rfl (p_call Try.func12 rfl rfl rfl) (k2) ?_
    rintro e_ w_ ⟨rfl, rfl⟩
    refine ⟨_, rfl, ?_⟩
    refine FL.pur rfl rfl (p_neq rfl rfl (show _ = !true by simp [c3])) ?_
    refine FL.pur rfl rfl (p_pick_f rfl rfl) ?_
    refine mv_ rfl rfl rfl ?_
    refine FL.off rfl rfl ?_
    refine FL.off rfl rfl ?_
    refine FL.off rfl rfl ?_
    refine FL.pur rfl rfl (p_pick_t rfl rfl) ?_
    refine mv_ rfl rfl rfl ?_
    refine FL.off rfl rfl ?_
    refine FL.off rfl rfl ?_
    refine FL.off rfl rfl ?_
    refine FL.off rfl rfl ?_
    refine FL.off rfl rfl ?_
    refine FL.off rfl rfl ?_
    refine FL.off rfl rfl ?_
    refine FL.off rfl rfl ?_
    refine FL.pur rfl rfl (p_pick_t rfl rfl) ?_
    refine FL.nilK ?_
    refine FC.cond_t rfl ?_
    refine FC.seq (FC.region ?_)
    refine sg_ rfl rfl rfl ?_
    refine FL.nilK ?_
    refine FC.ret ?_
    repeat with_reducible first | refine thn_ret ?_ | refine blk_ret ?_ | refine nog_ret ?_
    exact ret1 Try.results16 rfl ⟨⟨false, rfl, by simp [RefSpec, c3]⟩, Fr.refl _ _⟩
  by_cases c4 : ps.length = 0
  · refine FC.seq (FC.region ?_)
    refine mv_ rfl rfl rfl ?_
    refine mv_ rfl rfl rfl ?_
    refine FL.call rfl rfl (p_call Try.func12 rfl rfl rfl) (k1) ?_
    rintro e_ w_ ⟨rfl, rfl⟩
    refine ⟨_, rfl, ?_⟩
    refine FL.pur rfl rfl (p_neq rfl rfl (show _ = !false by simp [c1])) ?_
    refine mv_ rfl rfl rfl ?_
    refine mv_ rfl rfl rfl ?_
    refine FL.pur rfl rfl (p_len rfl Try.underlying22) ?_
    refine FL.pur rfl rfl (p_gtr rfl rfl (decide_eq_false (by omega))) ?_
    refine FL.pur rfl rfl (p_pick_f rfl rfl) ?_
    refine mv_ rfl rfl rfl ?_
    refine mv_ rfl rfl rfl ?_
    refine mv_ rfl rfl rfl ?_
    refine FL.call rfl rfl (p_call Try.func12 rfl rfl rfl) (k2) ?_
    rintro e_ w_ ⟨rfl, rfl⟩
    refine ⟨_, rfl, ?_⟩
    refine FL.pur rfl rfl (p_neq rfl rfl (show _ = !false by simp [c3])) ?_
    refine FL.pur rfl rfl (p_pick_f rfl rfl) ?_
    refine mv_ rfl rfl rfl ?_
    refine mv_ rfl rfl rfl ?_
    refine FL.pur rfl rfl (p_len rfl Try.underlying22) ?_
    refine FL.pur rfl rfl (p_eql rfl rfl (decide_eq_true (by omega))) ?_
    refine FL.pur rfl rfl (p_pick_f rfl rfl) ?_
    refine mv_ rfl rfl rfl ?_
    refine FL.off rfl rfl ?_
    refine FL.off rfl rfl ?_
    refine FL.off rfl rfl ?_
    refine FL.off rfl rfl ?_
    refine FL.off rfl rfl ?_
    refine FL.off rfl rfl ?_
    refine FL.off rfl rfl ?_
    refine FL.off rfl rfl ?_
    refine FL.pur rfl rfl (p_pick_t rfl rfl) ?_
    refine FL.nilK ?_
    refine FC.cond_t rfl ?_
    refine FC.seq (FC.region ?_)
    refine sg_ rfl rfl rfl ?_
    refine FL.nilK ?_
    refine FC.ret ?_
    repeat with_reducible first | refine thn_ret ?_ | refine blk_ret ?_ | refine nog_ret ?_
    exact ret1 Try.results16 rfl ⟨⟨false, rfl, by have : ¬ 0 < ps.length := by omega
                                                  simp [RefSpec, this]⟩, Fr.refl _ _⟩
  obtain ⟨ad, u, rfl, hadB, hcu, hru⟩ := hc2 (ps.length - 1) (by omega)
  obtain ⟨A3, cap3, rfl, _⟩ := hru
  refine FC.seq (FC.region ?_)
  refine mv_ rfl rfl rfl ?_
  refine mv_ rfl rfl rfl ?_
  refine FL.call rfl rfl (p_call Try.func12 rfl rfl rfl) (k1) ?_
  rintro e_ w_ ⟨rfl, rfl⟩
  refine ⟨_, rfl, ?_⟩
  refine FL.pur rfl rfl (p_neq rfl rfl (show _ = !false by simp [c1])) ?_
  refine mv_ rfl rfl rfl ?_
  refine mv_ rfl rfl rfl ?_
  refine FL.pur rfl rfl (p_len rfl Try.underlying22) ?_
  refine FL.pur rfl rfl (p_gtr rfl rfl (decide_eq_false (by omega))) ?_
  refine FL.pur rfl rfl (p_pick_f rfl rfl) ?_
  refine mv_ rfl rfl rfl ?_
  refine mv_ rfl rfl rfl ?_
  refine mv_ rfl rfl rfl ?_
  refine FL.call rfl rfl (p_call Try.func12 rfl rfl rfl) (k2) ?_
  rintro e_ w_ ⟨rfl, rfl⟩
  refine ⟨_, rfl, ?_⟩
  refine FL.pur rfl rfl (p_neq rfl rfl (show _ = !false by simp [c3])) ?_
  refine FL.pur rfl rfl (p_pick_f rfl rfl) ?_
  refine mv_ rfl rfl rfl ?_
  refine mv_ rfl rfl rfl ?_
  refine FL.pur rfl rfl (p_len rfl Try.underlying22) ?_
  refine FL.pur rfl rfl (p_eql rfl rfl (decide_eq_false (by omega))) ?_
  refine FL.pur rfl rfl (p_pick_f rfl rfl) ?_
  refine mv_ rfl rfl rfl ?_
  refine mv_ rfl rfl rfl ?_
  refine mv_ rfl rfl rfl ?_
  refine FL.pur rfl rfl (p_len rfl Try.underlying22) ?_
  refine FL.pur rfl rfl (p_sub rfl rfl ((wr (by omega) (by omega)).trans (show (ps.length : Int) - 1 = ((ps.length - 1 : Nat) : Int) by omega))) ?_
  refine FL.pur rfl rfl (p_indexA rfl rfl Try.underlying22 inf41_eq inf41_size (by omega) (by omega)) ?_
  refine FL.val _ _ rfl rfl (p_load rfl Try.underlying41 rfl hcu) ?_
  refine FL.pur rfl rfl (p_len rfl Try.underlying41) ?_
  refine FL.pur rfl rfl (p_gtr rfl rfl rfl) ?_
  refine FL.pur rfl rfl (p_pick_f rfl rfl) ?_
  refine FL.nilK ?_
  refine FC.cond (decide (0 < ((ps.getD (ps.length - 1) []).length : Int))) rfl (fun c5 => ?_) (fun c5 => FC.skip (thn_normal ?_))
  · have c5 := of_decide_eq_true c5
    refine FC.seq (FC.region ?_)
    refine sg_ rfl rfl rfl ?_
    refine FL.nilK ?_
    refine FC.ret ?_
    repeat with_reducible first | refine thn_ret ?_ | refine blk_ret ?_ | refine nog_ret ?_
    exact ret1 Try.results16 rfl ⟨⟨false, rfl, by have : ¬ (ps.getD (ps.length - 1) []).length = 0 := by omega
                                                  exact ⟨fun h => (by cases h), fun h => absurd h.2.2.2.2.1 this⟩⟩, Fr.refl _ _⟩
  have c5 : (ps.getD (ps.length - 1) []).length = 0 := by have := of_decide_eq_false c5; omega
  obtain ⟨b1, b2, b3, b4⟩ := checkV_bad c1
  obtain ⟨_, _, _, b5⟩ := checkV_bad c3
  obtain ⟨m, rfl⟩ : ∃ m : Nat, a = m := ⟨a.toNat, by omega⟩
  have lit1 : ∀ c ∈ cs, ∀ l ∈ c, Lit (m + 1) l ∧ l ≠ 0 := fun c hc l hl => by
    have := b4 c hc l hl
    exact ⟨⟨by omega, by omega⟩, this.1⟩
  have lit2 : ∀ c ∈ ps, ∀ l ∈ c, Lit (m + 1) l ∧ l ≠ 0 := fun c hc l hl => by
    have := b5 c hc l hl
    exact ⟨⟨by omega, by omega⟩, this.1⟩
  refine FC.seq (FC.region ?_)
  refine mv_ rfl rfl rfl ?_
  refine FL.call rfl rfl (p_call Try.func30 rfl rfl rfl) (begin_calls w m (by omega)) ?_
  rintro e_ w_ ⟨g0, V, rfl, hs, f1⟩
  refine ⟨_, rfl, ?_⟩
  refine FL.val _ _ rfl rfl (p_alloc inf49_eq inf49_zeroR rfl) ?_
  refine FL.sto _ rfl (st49 rfl rfl rfl (fresh_cell _ _ (.pointer none) 49).1 (fresh_cell _ _ (.pointer none) 49).2.1) ?_
  refine FL.nilK ?_
  refine FC.seq (FC.region ?_)
  refine FL.val _ _ rfl rfl (p_alloc inf4_eq inf4_zero rfl) ?_
  refine FL.sto _ rfl (st4 rfl rfl rfl (fresh_cell _ _ (.bool false) 4).1 (fresh_cell _ _ (.bool false) 4).2.1) ?_
  refine FL.nilK ?_
  refine FC.seq (FC.region ?_)
  refine FL.pur rfl rfl (p_func rfl) ?_
  refine sg_ rfl rfl rfl ?_
  refine FL.nilK ?_
  obtain ⟨hbx, f2⟩ := box_new hs _ _ rfl rfl
  obtain ⟨sb, hsb⟩ : ∃ sb, sb = w_.heap.size := ⟨_, rfl⟩
  rw [← hsb] at hbx ⊢
  obtain ⟨w2, hw2⟩ : ∃ w2, w2 = (w_.alloc (.cells #[.pointer none] 49)).setCell ⟨sb, 0, none⟩ (.pointer (some ⟨g0, 0, none⟩)) := ⟨_, rfl⟩
  rw [← hsb] at f2
  rw [← hw2] at hbx f2 ⊢
  obtain ⟨fb, hfb⟩ : ∃ fb, fb = w2.heap.size := ⟨_, rfl⟩
  rw [← hfb] at hbx f2 ⊢
  have hfB : w.heap.size ≤ fb := by rw [hfb, hw2, setCell_size]; have := f1.size; simp; omega
  have f3 := f1.trans f2 fun _ h => .inl h
  have f3 := f3.mono (G := fun k => w.heap.size ≤ k) fun _ h => h.elim
  have low : ∀ k, k < B → ¬ w.heap.size ≤ k := fun k hk => by omega
  refine FC.cut (σ := S × Lay × Bool) (fun x => [(0, .int .i64 m), (1, .slice A1 cs.length cap1), (2, .slice (some ad) ps.length cap2), (7, .pointer (some ⟨sb, 0, none⟩)), (8, .pointer (some ⟨fb, 0, none⟩)), (9, .func (.func 31) #[] #[.pointer (some ⟨fb, 0, none⟩), .pointer (some ⟨sb, 0, none⟩)])]) (fun x w2 => Box w2 w.heap.size g0 x.1 x.2.1 fb sb x.2.2 ∧ St cs (m + 1) (2 * cs.length) x.1 x.2.2 ∧ x.1.clauses.length ≤ cs.length ∧ Fr (fun k => w.heap.size ≤ k) w w2) ?_ ?_
  · refine FC.seq (FC.region ?_)
    refine mv_ rfl rfl rfl ?_
    refine FL.pur rfl rfl (p_len rfl Try.underlying22) ?_
    refine mv_ rfl rfl rfl ?_
    refine FL.nilK ?_
    refine FC.block ?_
    refine FC.loop (σ := Nat × S × Lay × Bool) (fun x => [(0, .int .i64 m), (1, .slice A1 cs.length cap1), (2, .slice (some ad) ps.length cap2), (7, .pointer (some ⟨sb, 0, none⟩)), (8, .pointer (some ⟨fb, 0, none⟩)), (9, .func (.func 31) #[] #[.pointer (some ⟨fb, 0, none⟩), .pointer (some ⟨sb, 0, none⟩)]), (47, .slice A1 cs.length cap1), (48, .int .i64 cs.length), (49, .int .i64 x.1)]) (fun x w2 => x.1 ≤ cs.length ∧ Box w2 w.heap.size g0 x.2.1 x.2.2.1 fb sb x.2.2.2 ∧ St (cs.take x.1) (m + 1) (2 * x.1) x.2.1 x.2.2.2 ∧ x.2.1.clauses.length ≤ x.1 ∧ Fr (fun k => w.heap.size ≤ k) w w2)
      (fun x => cs.length - x.1) (0, beginS m, V, false) ⟨Nat.zero_le _, hbx, ⟨fun _ => begin_still m (by omega) (by omega), fun e => (by cases e)⟩, Nat.le_refl _, f3⟩ ⟨rfl, rfl, rfl, rfl, rfl, rfl, rfl, rfl, rfl, trivial⟩ ?_
    rintro ⟨i, s1, V1, f⟩ w3 ⟨hi, hb, hst, hcl, hf⟩
    simp only at hi hb hst hcl hf ⊢
    refine FC.seq (FC.region ?_)
    refine FL.pur rfl rfl (p_lss rfl rfl rfl) ?_
    refine FL.nilK ?_
    refine FC.seq ?_
    refine FC.cond (decide ((i : Int) < (cs.length : Int))) rfl (fun hcc => FC.skip (thn_normal ?_)) (fun hcc => FC.exit ?_)
    rotate_left
    · have hge : ¬ (i : Int) < (cs.length : Int) := of_decide_eq_false hcc
      obtain rfl : i = cs.length := by omega
      rw [List.take_length] at hst
      exact thn_exit (thn_exit (blk_exit ⟨(s1, V1, f), ⟨rfl, rfl, rfl, rfl, rfl, rfl, trivial⟩, hb, hst, hcl, hf⟩))
    have hlt : i < cs.length := by have := of_decide_eq_true hcc; omega
    obtain ⟨ad1, u1, rfl, hadB1, hcu1, hru1⟩ := hc1 i hlt
    have hcu1' : w3.cell? (ad1.add i) = some u1 := hf.cell hcu1 (by rw [add_block]; exact low _ hadB1)
    have hmem1 := mem_getD (d := ([] : List Int)) hlt
    have hput := put_calls (n := m + 1) (Φ := cs.take i) (T := 2 * i) hb hf.size ((hru1.fr hf low).mono hB) (fun l hl => lit1 _ hmem1 l hl) (hll1 _ hmem1) (by omega) hst.1 (by omega) (by omega)
    refine FC.seq ?_
    refine FC.block ?_
    refine FC.seq (FC.region ?_)
    refine FL.pur rfl rfl (p_indexA rfl rfl Try.underlying22 inf41_eq inf41_size (by omega) (by omega)) ?_
    refine FL.val _ _ rfl rfl (p_load rfl Try.underlying41 rfl hcu1') ?_
    refine sg_ rfl rfl rfl ?_
    refine FL.nilK ?_
    refine FC.region ?_
    refine mv_ rfl rfl rfl ?_
    refine mv_ rfl rfl rfl ?_
    refine FL.call rfl rfl (p_callv (cap := [.pointer (some ⟨fb, 0, none⟩), .pointer (some ⟨sb, 0, none⟩)]) rfl Try.func31 rfl rfl rfl) hput ?_
    rintro e_ w4 ⟨rfl, s2, V2, f', hb4, hp4, hf4, hsub4⟩
    refine ⟨_, rfl, ?_⟩
    refine FL.nil ?_
    obtain ⟨st2, cl2⟩ := put_st hst hp4 (by omega) (by omega) (fun l hl => lit1 _ hmem1 l hl)
    have etake : cs.take (i + 1) = cs.take i ++ [cs.getD i []] := by
      rw [List.take_add_one, List.getElem?_eq_getElem hlt, List.getD_eq_getElem?_getD, List.getElem?_eq_getElem hlt]
      rfl
    refine blk_normal (thn_normal ?_)
    refine FC.region ?_
    refine FL.pur rfl rfl (p_add rfl rfl ((wr (by omega) (by omega)).trans (show (i : Int) + 1 = ((i + 1 : Nat) : Int) by omega))) ?_
    refine mv_ rfl rfl rfl ?_
    refine FL.nil ?_
    refine ⟨(i + 1, s2, V2, f'), ⟨rfl, rfl, rfl, rfl, rfl, rfl, rfl, rfl, rfl, trivial⟩, ⟨hlt, hb4, ?_, by show s2.clauses.length ≤ i + 1; omega, hf.trans hf4 fun k hk => .inl ?_⟩, by show cs.length - (i + 1) < cs.length - i; omega⟩
    · show St (cs.take (i + 1)) (m + 1) (2 * (i + 1)) s2 f'
      rw [etake, show 2 * (i + 1) = 2 * i + 2 by omega]
      exact st2
    · rcases hk with hk | hk
      · exact hb.srch.ge hk
      · rw [hk]; exact hfB
  rintro ⟨s1, V1, f⟩ w3 ⟨hb, hst, hcl, hf⟩
  simp only at hb hst hcl hf ⊢
  clear hbx f2 f3 hs
  have lowf : ∀ {w4 w5 : World}, Fr (fun k => w.heap.size ≤ k) w w5 → Fr (fun _ => False) w w5 := fun h => h.mono fun k hk => .inr hk
  refine FC.cut (σ := Unit) (fun _ => []) (fun _ w2 => Fr (fun k => w.heap.size ≤ k) w w2 ∧ ∀ i, i < ps.length → Taut (ps.getD i []) ∨ Conf (cs ++ ps.take i) fun l => -l ∈ ps.getD i []) ?_ ?_
  rotate_left
  · rintro - w4 ⟨f4, hall⟩
    refine FC.seq (FC.region ?_)
    refine sg_ rfl rfl rfl ?_
    refine FL.nilK ?_
    refine FC.ret ?_
    repeat with_reducible first | refine thn_ret ?_ | refine blk_ret ?_ | refine nog_ret ?_
    exact ret1 Try.results16 rfl ⟨⟨true, rfl, ⟨fun _ => ⟨c1, by omega, c3, by omega, c5, hall⟩, fun _ => rfl⟩⟩, f4.mono fun k hk => .inr hk⟩
  refine FC.seq (FC.region ?_)
  refine mv_ rfl rfl rfl ?_
  refine FL.pur rfl rfl (p_len rfl Try.underlying22) ?_
  refine mv_ rfl rfl rfl ?_
  refine FL.nilK ?_
  refine FC.block ?_
  refine FC.loop (σ := Nat × S × Lay × Bool) (fun x => [(0, .int .i64 m), (1, .slice A1 cs.length cap1), (2, .slice (some ad) ps.length cap2), (7, .pointer (some ⟨sb, 0, none⟩)), (8, .pointer (some ⟨fb, 0, none⟩)), (9, .func (.func 31) #[] #[.pointer (some ⟨fb, 0, none⟩), .pointer (some ⟨sb, 0, none⟩)]), (57, .slice (some ad) ps.length cap2), (58, .int .i64 ps.length), (59, .int .i64 x.1)]) (fun x w2 => x.1 ≤ ps.length ∧ Box w2 w.heap.size g0 x.2.1 x.2.2.1 fb sb x.2.2.2 ∧ St (cs ++ ps.take x.1) (m + 1) (2 * (cs.length + x.1)) x.2.1 x.2.2.2 ∧ x.2.1.clauses.length ≤ cs.length + x.1 ∧ Fr (fun k => w.heap.size ≤ k) w w2 ∧ ∀ i, i < x.1 → Taut (ps.getD i []) ∨ Conf (cs ++ ps.take i) fun l => -l ∈ ps.getD i [])
    (fun x => ps.length - x.1) (0, s1, V1, f) ⟨Nat.zero_le _, hb, by rw [List.take_zero, List.append_nil]; exact hst, hcl, hf, fun i hi => absurd hi (Nat.not_lt_zero i)⟩ ⟨rfl, rfl, rfl, rfl, rfl, rfl, rfl, rfl, rfl, trivial⟩ ?_
  clear hb hst hcl hf
  rintro ⟨i, s1, V1, f⟩ w3 ⟨hi, hb, hst, hcl, hf, hall⟩
  simp only at hi hb hst hcl hf hall ⊢
  refine FC.seq (FC.region ?_)
  refine FL.pur rfl rfl (p_lss rfl rfl rfl) ?_
  refine FL.nilK ?_
  refine FC.seq ?_
  refine FC.cond (decide ((i : Int) < (ps.length : Int))) rfl (fun hcc => FC.skip (thn_normal ?_)) (fun hcc => FC.exit ?_)
  rotate_left
  · have hge : ¬ (i : Int) < (ps.length : Int) := of_decide_eq_false hcc
    obtain rfl : i = ps.length := by omega
    exact thn_exit (thn_exit (blk_exit ⟨(), trivial, hf, hall⟩))
  have hlt : i < ps.length := by have := of_decide_eq_true hcc; omega
  obtain ⟨ad1, u1, e1, hadB1, hcu1, hru1⟩ := hc2 i hlt
  injection e1 with e1
  subst e1
  have hcu1' : w3.cell? (ad.add i) = some u1 := hf.cell hcu1 (by rw [add_block]; exact low _ hadB1)
  have hmem1 := mem_getD (d := ([] : List Int)) hlt
  have hlit := fun l hl => lit2 _ hmem1 l hl
  have etake : ps.take (i + 1) = ps.take i ++ [ps.getD i []] := by
    rw [List.take_add_one, List.getElem?_eq_getElem hlt, List.getD_eq_getElem?_getD, List.getElem?_eq_getElem hlt]
    rfl
  refine FC.seq ?_
  refine FC.block ?_
  refine FC.seq (FC.region ?_)
  refine FL.pur rfl rfl (p_indexA rfl rfl Try.underlying22 inf41_eq inf41_size (by omega) (by omega)) ?_
  refine FL.val _ _ rfl rfl (p_load rfl Try.underlying41 rfl hcu1') ?_
  refine sg_ rfl rfl rfl ?_
  refine FL.nilK ?_
  refine FC.cut (σ := S × Lay) (fun x => [(0, .int .i64 m), (1, .slice A1 cs.length cap1), (2, .slice (some ad) ps.length cap2), (7, .pointer (some ⟨sb, 0, none⟩)), (8, .pointer (some ⟨fb, 0, none⟩)), (9, .func (.func 31) #[] #[.pointer (some ⟨fb, 0, none⟩), .pointer (some ⟨sb, 0, none⟩)]), (13, u1), (57, .slice (some ad) ps.length cap2), (58, .int .i64 ps.length), (59, .int .i64 i)]) (fun x w2 => Box w2 w.heap.size g0 x.1 x.2 fb sb f ∧ St (cs ++ ps.take i) (m + 1) (2 * (cs.length + i)) x.1 f ∧ x.1.clauses.length ≤ cs.length + i ∧ Fr (fun k => w.heap.size ≤ k) w w2 ∧ (Taut (ps.getD i []) ∨ Conf (cs ++ ps.take i) fun l => -l ∈ ps.getD i [])) ?_ ?_
  · cases f with
    | true =>
      refine FC.seq (FC.region ?_)
      refine FL.val _ _ rfl rfl (p_load rfl Try.underlying4 rfl hb.fc) ?_
      refine FL.pur rfl rfl (p_not rfl) ?_
      refine mv_ rfl rfl rfl ?_
      refine FL.off rfl rfl ?_
      refine FL.off rfl rfl ?_
      refine FL.off rfl rfl ?_
      refine FL.off rfl rfl ?_
      refine FL.pur rfl rfl (p_pick_f rfl rfl) ?_
      refine FL.nilK ?_
      refine FC.cond_f rfl (FC.skip ?_)
      exact ⟨(s1, V1), ⟨rfl, rfl, rfl, rfl, rfl, rfl, rfl, rfl, rfl, rfl, trivial⟩, hb, hst, hcl, hf, follows_of_conf (hst.2 rfl) _⟩
    | false =>
      obtain ⟨l1, l2, _, l4⟩ := follows_law (hst.1 rfl) hlit
      refine FC.seq (FC.region ?_)
      refine FL.val _ _ rfl rfl (p_load rfl Try.underlying4 rfl hb.fc) ?_
      refine FL.pur rfl rfl (p_not rfl) ?_
      refine mv_ rfl rfl rfl ?_
      refine FL.val _ _ rfl rfl (p_load rfl Try.underlying49 rfl hb.sc) ?_
      refine mv_ rfl rfl rfl ?_
      refine FL.call rfl rfl (p_call Try.func38 rfl rfl rfl) (follows_calls hb.srch (hst.1 rfl) ((hru1.fr hf low).mono hB) hlit (hll2 _ hmem1)) ?_
      rintro e_ w_ ⟨rfl, V2, h2, G2⟩
      refine ⟨_, rfl, ?_⟩
      refine FL.pur rfl rfl (p_not rfl) ?_
      refine FL.pur rfl rfl (p_pick_t rfl rfl) ?_
      refine FL.nilK ?_
      refine FC.cond (!(followsS (m + 1) s1 (ps.getD i [])).2) rfl (fun hcc => ?_) (fun hcc => FC.skip ?_)
      · refine FC.seq (FC.region ?_)
        refine sg_ rfl rfl rfl ?_
        refine FL.nilK ?_
        refine FC.ret ?_
        repeat with_reducible first | refine thn_ret ?_ | refine blk_ret ?_ | refine nog_ret ?_
        have hF : Fr (fun k => w.heap.size ≤ k) w w_ := hf.trans G2.fr fun k hk => .inl (hb.srch.ge hk)
        refine ret1 Try.results16 rfl ⟨⟨false, rfl, ⟨fun e => (by cases e), fun e => ?_⟩⟩, hF.mono fun k hk => .inr hk⟩
        have := l2.2 (e.2.2.2.2.2 i hlt)
        rw [this] at hcc; cases hcc
      · have hT : (followsS (m + 1) s1 (ps.getD i [])).2 = true := by simpa using hcc
        exact ⟨(_, V2), ⟨rfl, rfl, rfl, rfl, rfl, rfl, rfl, rfl, rfl, rfl, trivial⟩, hb.goes h2 G2, ⟨fun _ => l1, fun e => (by cases e)⟩, by show (followsS _ _ _).1.clauses.length ≤ _; rw [l4]; exact hcl, hf.trans G2.fr fun k hk => .inl (hb.srch.ge hk), l2.1 hT⟩
  clear hb hst hcl hf
  rintro ⟨s2, V2⟩ w5 ⟨hb, hst, hcl, hf, hfo⟩
  simp only at hb hst hcl hf hfo ⊢
  have hput := put_calls (n := m + 1) (Φ := cs ++ ps.take i) (T := 2 * (cs.length + i)) hb hf.size ((hru1.fr hf low).mono hB) hlit (hll2 _ hmem1) (by omega) hst.1 (by omega) (by omega)
  refine FC.region ?_
  refine mv_ rfl rfl rfl ?_
  refine mv_ rfl rfl rfl ?_
  refine FL.call rfl rfl (p_call Try.func39 rfl rfl rfl) (clause_calls _ _) ?_
  rintro e_ w_ ⟨rfl, rfl⟩
  refine ⟨_, rfl, ?_⟩
  refine FL.call rfl rfl (p_callv (cap := [.pointer (some ⟨fb, 0, none⟩), .pointer (some ⟨sb, 0, none⟩)]) rfl Try.func31 rfl rfl rfl) hput ?_
  rintro e_ w4 ⟨rfl, s3, V3, f', hb4, hp4, hf4, hsub4⟩
  refine ⟨_, rfl, ?_⟩
  refine FL.nil ?_
  obtain ⟨st2, cl2⟩ := put_st hst hp4 (by omega) (by omega) hlit
  refine blk_normal (thn_normal ?_)
  refine FC.region ?_
  refine FL.pur rfl rfl (p_add rfl rfl ((wr (by omega) (by omega)).trans (show (i : Int) + 1 = ((i + 1 : Nat) : Int) by omega))) ?_
  refine mv_ rfl rfl rfl ?_
  refine FL.nil ?_
  refine ⟨(i + 1, s3, V3, f'), ⟨rfl, rfl, rfl, rfl, rfl, rfl, rfl, rfl, rfl, trivial⟩, ⟨hlt, hb4, ?_, by show s3.clauses.length ≤ cs.length + (i + 1); omega, hf.trans hf4 fun k hk => .inl ?_, fun k hk => ?_⟩, by show ps.length - (i + 1) < ps.length - i; omega⟩
  · show St (cs ++ ps.take (i + 1)) (m + 1) (2 * (cs.length + (i + 1))) s3 f'
    rw [etake, ← List.append_assoc, show 2 * (cs.length + (i + 1)) = 2 * (cs.length + i) + 2 by omega]
    exact st2
  · rcases hk with hk | hk
    · exact hb.srch.ge hk
    · rw [hk]; exact hfB
  · by_cases e : k = i
    · rw [e]; exact hfo
    · exact hall k (by simp only at hk; omega)
end
end Go.Proofs.Ytcahhbcehnbdkaa.Sv

/- Walks of Holds and what it calls. -/
namespace Go.Proofs.Ytcahhbcehnbdkaa.Sv
open Go.RowKit Go.Proofs.YtcahhbcehnbdkaaW.PrintWords Go.Proofs.YtcahhbcehnbdkaaW.PrintLast Go.Proofs.Ytcahhbcehnbdkaa.Eng

def isB (bs : List Bool) (l : Int) : Bool := if 0 < l ∧ l ≤ bs.length then bs.getD (l - 1).toNat false else if l < 0 ∧ -(bs.length : Int) ≤ l then !bs.getD (-l - 1).toNat false else false
/-- A row of truth values that is only read. -/
def BRow (w : World) (B : Nat) (v : Value) (bs : List Bool) : Prop :=
  ∃ A cap, v = .slice A bs.length cap ∧ ∀ i, i < bs.length → ∃ ad, A = some ad ∧ ad.block < B ∧ w.cell? (ad.add i) = some (.bool (bs.getD i false))
section
variable {w : World} {B mb : Nat}
theorem is_calls {v : Value} {bs : List Bool} (h : BRow w B v bs) (hm : w.cell? ⟨mb, 0, none⟩ = some v) (hl : bs.length < 4611686018427387904) (l : Int) (hl1 : -9223372036854775808 ≤ l) (hl2 : l < 9223372036854775808) :
    Calls Try.prog 27 #[.int .i64 l, .pointer (some ⟨mb, 0, none⟩)] w fun e w' => e = .returned (.bool (isB bs l)) ∧ w = w' := by
  obtain ⟨A, cap, rfl, hcell⟩ := h
  refine calls_of_FC (N := 35) (vs := [.int .i64 l, .pointer (some ⟨mb, 0, none⟩)]) Try.func27 rfl Try.ntmps27 (Nat.le_of_ble_eq_true rfl) ?_
  refine FC.seq (FC.region ?_)
  refine sg_ rfl rfl rfl ?_
  refine FL.nilK ?_
  by_cases c1 : 0 < l ∧ l ≤ bs.length
  · obtain ⟨ad, rfl, _, hc⟩ := hcell (l - 1).toNat (by omega)
    refine FC.seq ?_
    refine FC.block ?_
    refine FC.seq (FC.region ?_)
    refine mv_ rfl rfl rfl ?_
    refine FL.pur rfl rfl (p_gtr rfl rfl (decide_eq_true c1.1)) ?_
    refine mv_ rfl rfl rfl ?_
    refine mv_ rfl rfl rfl ?_
    refine FL.val _ _ rfl rfl (p_load rfl Try.underlying23 rfl hm) ?_
    refine FL.pur rfl rfl (p_len rfl Try.underlying23) ?_
    refine FL.pur rfl rfl (p_leq rfl rfl (decide_eq_true c1.2)) ?_
    refine FL.pur rfl rfl (p_pick_t rfl rfl) ?_
    refine sg_ rfl rfl rfl ?_
    refine FL.nilK ?_
    refine FC.cond_t rfl ?_
    refine FC.seq (FC.region ?_)
    refine FL.val _ _ rfl rfl (p_load rfl Try.underlying23 rfl hm) ?_
    refine mv_ rfl rfl rfl ?_
    refine FL.pur rfl rfl (p_sub rfl rfl (wr (by omega) (by omega))) ?_
    refine FL.pur rfl rfl (p_indexA rfl rfl Try.underlying23 inf4_eq inf4_size (by omega) (by omega)) ?_
    refine FL.val _ _ rfl rfl (p_load rfl Try.underlying4 rfl hc) ?_
    refine sg_ rfl rfl rfl ?_
    refine FL.nilK ?_
    refine FC.ret ?_
    repeat with_reducible first | refine thn_ret ?_ | refine blk_ret ?_ | refine nog_ret ?_
    exact ret1 Try.results27 rfl ⟨by unfold isB; rw [if_pos c1], rfl⟩
  refine FC.seq ?_
  by_cases c2 : 0 < l
  · refine FC.block ?_
    refine FC.seq (FC.region ?_)
    refine mv_ rfl rfl rfl ?_
    refine FL.pur rfl rfl (p_gtr rfl rfl (decide_eq_true c2)) ?_
    refine mv_ rfl rfl rfl ?_
    refine mv_ rfl rfl rfl ?_
    refine FL.val _ _ rfl rfl (p_load rfl Try.underlying23 rfl hm) ?_
    refine FL.pur rfl rfl (p_len rfl Try.underlying23) ?_
    refine FL.pur rfl rfl (p_leq rfl rfl (decide_eq_false (by omega))) ?_
    refine FL.pur rfl rfl (p_pick_t rfl rfl) ?_
    refine sg_ rfl rfl rfl ?_
    refine FL.nilK ?_
    refine FC.cond_f rfl ?_
    refine FC.seq (FC.region ?_)
    refine mv_ rfl rfl rfl ?_
    refine FL.pur rfl rfl (p_lss rfl rfl (decide_eq_false (by omega))) ?_
    refine mv_ rfl rfl rfl ?_
    refine FL.off rfl rfl ?_
    refine FL.off rfl rfl ?_
    refine FL.off rfl rfl ?_
    refine FL.off rfl rfl ?_
    refine FL.off rfl rfl ?_
    refine FL.pur rfl rfl (p_pick_f rfl rfl) ?_
    refine sg_ rfl rfl rfl ?_
    refine FL.nilK ?_
    refine FC.cond_f rfl (FC.skip ?_)
    refine blk_normal (thn_normal ?_)
    refine FC.seq (FC.region ?_)
    refine sg_ rfl rfl rfl ?_
    refine FL.nilK ?_
    refine FC.ret ?_
    repeat with_reducible first | refine thn_ret ?_ | refine blk_ret ?_ | refine nog_ret ?_
    exact ret1 Try.results27 rfl ⟨by unfold isB; rw [if_neg c1, if_neg (by omega)], rfl⟩
  by_cases c3 : l < 0 ∧ -(bs.length : Int) ≤ l
  · obtain ⟨ad, rfl, _, hc⟩ := hcell (-l - 1).toNat (by omega)
    refine FC.block ?_
    refine FC.seq (FC.region ?_)
    refine mv_ rfl rfl rfl ?_
    refine FL.pur rfl rfl (p_gtr rfl rfl (decide_eq_false c2)) ?_
    refine mv_ rfl rfl rfl ?_
    refine FL.off rfl rfl ?_
    refine FL.off rfl rfl ?_
    refine FL.off rfl rfl ?_
    refine FL.off rfl rfl ?_
    refine FL.pur rfl rfl (p_pick_f rfl rfl) ?_
    refine sg_ rfl rfl rfl ?_
    refine FL.nilK ?_
    refine FC.cond_f rfl ?_
    refine FC.seq (FC.region ?_)
    refine mv_ rfl rfl rfl ?_
    refine FL.pur rfl rfl (p_lss rfl rfl (decide_eq_true c3.1)) ?_
    refine mv_ rfl rfl rfl ?_
    refine mv_ rfl rfl rfl ?_
    refine FL.val _ _ rfl rfl (p_load rfl Try.underlying23 rfl hm) ?_
    refine FL.pur rfl rfl (p_len rfl Try.underlying23) ?_
    refine FL.pur rfl rfl (p_neg rfl (wr (by omega) (by omega))) ?_
    refine FL.pur rfl rfl (p_geq rfl rfl (decide_eq_true c3.2)) ?_
    refine FL.pur rfl rfl (p_pick_t rfl rfl) ?_
    refine sg_ rfl rfl rfl ?_
    refine FL.nilK ?_
    refine FC.cond_t rfl ?_
    refine FC.seq (FC.region ?_)
    refine FL.val _ _ rfl rfl (p_load rfl Try.underlying23 rfl hm) ?_
    refine mv_ rfl rfl rfl ?_
    refine FL.pur rfl rfl (p_neg rfl (wr (by omega) (by omega))) ?_
    refine FL.pur rfl rfl (p_sub rfl rfl (wr (by omega) (by omega))) ?_
    refine FL.pur rfl rfl (p_indexA rfl rfl Try.underlying23 inf4_eq inf4_size (by omega) (by omega)) ?_
    refine FL.val _ _ rfl rfl (p_load rfl Try.underlying4 rfl hc) ?_
    refine FL.pur rfl rfl (p_not rfl) ?_
    refine sg_ rfl rfl rfl ?_
    refine FL.nilK ?_
    refine FC.ret ?_
    repeat with_reducible first | refine thn_ret ?_ | refine blk_ret ?_ | refine nog_ret ?_
    exact ret1 Try.results27 rfl ⟨by unfold isB; rw [if_neg c1, if_pos c3], rfl⟩
  by_cases c4 : l < 0
  · refine FC.block ?_
    refine FC.seq (FC.region ?_)
    refine mv_ rfl rfl rfl ?_
    refine FL.pur rfl rfl (p_gtr rfl rfl (decide_eq_false c2)) ?_
    refine mv_ rfl rfl rfl ?_
    refine FL.off rfl rfl ?_
    refine FL.off rfl rfl ?_
    refine FL.off rfl rfl ?_
    refine FL.off rfl rfl ?_
    refine FL.pur rfl rfl (p_pick_f rfl rfl) ?_
    refine sg_ rfl rfl rfl ?_
    refine FL.nilK ?_
    refine FC.cond_f rfl ?_
    refine FC.seq (FC.region ?_)
    refine mv_ rfl rfl rfl ?_
    refine FL.pur rfl rfl (p_lss rfl rfl (decide_eq_true c4)) ?_
    refine mv_ rfl rfl rfl ?_
    refine mv_ rfl rfl rfl ?_
    refine FL.val _ _ rfl rfl (p_load rfl Try.underlying23 rfl hm) ?_
    refine FL.pur rfl rfl (p_len rfl Try.underlying23) ?_
    refine FL.pur rfl rfl (p_neg rfl (wr (by omega) (by omega))) ?_
    refine FL.pur rfl rfl (p_geq rfl rfl (decide_eq_false (by omega))) ?_
    refine FL.pur rfl rfl (p_pick_t rfl rfl) ?_
    refine sg_ rfl rfl rfl ?_
    refine FL.nilK ?_
    refine FC.cond_f rfl (FC.skip ?_)
    refine blk_normal (thn_normal ?_)
    refine FC.seq (FC.region ?_)
    refine sg_ rfl rfl rfl ?_
    refine FL.nilK ?_
    refine FC.ret ?_
    repeat with_reducible first | refine thn_ret ?_ | refine blk_ret ?_ | refine nog_ret ?_
    exact ret1 Try.results27 rfl ⟨by unfold isB; rw [if_neg c1, if_neg (c3)], rfl⟩
  · refine FC.block ?_
    refine FC.seq (FC.region ?_)
    refine mv_ rfl rfl rfl ?_
    refine FL.pur rfl rfl (p_gtr rfl rfl (decide_eq_false c2)) ?_
    refine mv_ rfl rfl rfl ?_
    refine FL.off rfl rfl ?_
    refine FL.off rfl rfl ?_
    refine FL.off rfl rfl ?_
    refine FL.off rfl rfl ?_
    refine FL.pur rfl rfl (p_pick_f rfl rfl) ?_
    refine sg_ rfl rfl rfl ?_
    refine FL.nilK ?_
    refine FC.cond_f rfl ?_
    refine FC.seq (FC.region ?_)
    refine mv_ rfl rfl rfl ?_
    refine FL.pur rfl rfl (p_lss rfl rfl (decide_eq_false c4)) ?_
    refine mv_ rfl rfl rfl ?_
    refine FL.off rfl rfl ?_
    refine FL.off rfl rfl ?_
    refine FL.off rfl rfl ?_
    refine FL.off rfl rfl ?_
    refine FL.off rfl rfl ?_
    refine FL.pur rfl rfl (p_pick_f rfl rfl) ?_
    refine sg_ rfl rfl rfl ?_
    refine FL.nilK ?_
    refine FC.cond_f rfl (FC.skip ?_)
    refine blk_normal (thn_normal ?_)
    refine FC.seq (FC.region ?_)
    refine sg_ rfl rfl rfl ?_
    refine FL.nilK ?_
    refine FC.ret ?_
    repeat with_reducible first | refine thn_ret ?_ | refine blk_ret ?_ | refine nog_ret ?_
    exact ret1 Try.results27 rfl ⟨by unfold isB; rw [if_neg c1, if_neg (c3)], rfl⟩
def isV (mb : Nat) : Value := .func (.func 27) #[] #[.pointer (some ⟨mb, 0, none⟩)]
def Small64 (c : List Int) : Prop := ∀ l ∈ c, -9223372036854775808 ≤ l ∧ l < 9223372036854775808
theorem any_take' (p : Int → Bool) (c : List Int) (i : Nat) (hi : i < c.length) (h : (c.take i).any p = false) : (c.take (i + 1)).any p = p (g c i) := by
  rw [List.take_add_one, List.any_append, h, List.getElem?_eq_getElem hi, g, List.getD_eq_getElem?_getD, List.getElem?_eq_getElem hi]
  simp
theorem index1_calls {v u : Value} {c : List Int} {bs : List Bool} (h : Row w B v c) (hb : BRow w B u bs) (hm : w.cell? ⟨mb, 0, none⟩ = some u) (hl : c.length < 4611686018427387904) (hbl : bs.length < 4611686018427387904) (hs : Small64 c) :
    Calls Try.prog 44 #[v, isV mb] w fun e w' => (∃ i : Int, e = .returned (.int .i64 i) ∧ decide (0 ≤ i) = c.any (isB bs)) ∧ w = w' := by
  obtain ⟨A, cap, rfl, hcell⟩ := h
  refine calls_of_FC (N := 19) (vs := [.slice A c.length cap, isV mb]) Try.func44 rfl Try.ntmps44 (Nat.le_of_ble_eq_true rfl) ?_
  refine FC.seq (FC.region ?_)
  refine sg_ rfl rfl rfl ?_
  refine FL.nilK ?_
  refine FC.cut (σ := Unit) (fun _ => []) (fun _ w2 => w = w2 ∧ c.any (isB bs) = false) ?_ ?_
  · refine FC.seq (FC.region ?_)
    refine mv_ rfl rfl rfl ?_
    refine FL.pur rfl rfl (p_len rfl Try.underlying41) ?_
    refine mv_ rfl rfl rfl ?_
    refine FL.nilK ?_
    refine FC.block ?_
    refine FC.loop (σ := Nat) (fun x => [(0, .slice A c.length cap), (1, isV mb), (7, .int .i64 c.length), (8, .int .i64 x)]) (fun x w2 => w = w2 ∧ x ≤ c.length ∧ (c.take x).any (isB bs) = false) (fun x => c.length - x) 0 ⟨rfl, Nat.zero_le _, rfl⟩ ⟨rfl, rfl, rfl, rfl, trivial⟩ ?_
    rintro i w2 ⟨rfl, hi, hn⟩
    refine FC.seq (FC.region ?_)
    refine FL.pur rfl rfl (p_lss rfl rfl rfl) ?_
    refine FL.nilK ?_
    refine FC.seq ?_
    refine FC.cond (decide ((i : Int) < (c.length : Int))) rfl (fun hcc => FC.skip (thn_normal ?_)) (fun hcc => FC.exit ?_)
    rotate_left
    · have hge : ¬ (i : Int) < (c.length : Int) := of_decide_eq_false hcc
      rw [List.take_of_length_le (by omega)] at hn
      exact thn_exit (thn_exit (blk_exit ⟨(), trivial, rfl, hn⟩))
    have hlt : i < c.length := by have := of_decide_eq_true hcc; omega
    obtain ⟨ad, rfl, _, hc0⟩ := hcell i hlt
    have hc1 : w.cell? (ad.add (i : Int).toNat) = some (.int .i64 (g c i)) := hc0
    have hsm := hs _ (rd_mem c i (by omega) (by omega))
    refine FC.seq ?_
    refine FC.block ?_
    refine FC.seq (FC.region ?_)
    refine mv_ rfl rfl rfl ?_
    refine sg_ rfl rfl rfl ?_
    refine FL.nilK ?_
    refine FC.seq (FC.region ?_)
    refine mv_ rfl rfl rfl ?_
    refine mv_ rfl rfl rfl ?_
    refine mv_ rfl rfl rfl ?_
    refine FL.pur rfl rfl (p_indexA rfl rfl Try.underlying41 inf3_eq inf3_size (by omega) (by omega)) ?_
    refine FL.val _ _ rfl rfl (p_load rfl Try.underlying3 rfl hc1) ?_
    refine FL.call rfl rfl (p_callv (cap := [.pointer (some ⟨mb, 0, none⟩)]) rfl Try.func27 rfl rfl rfl) (is_calls hb hm hbl (g c i) hsm.1 hsm.2) ?_
    rintro e_ w_ ⟨rfl, rfl⟩
    refine ⟨_, rfl, ?_⟩
    refine FL.nilK ?_
    have hst := any_take' (isB bs) c i hlt hn
    refine FC.cond (isB bs (g c i)) rfl (fun hcc => ?_) (fun hcc => FC.skip ?_)
    · refine FC.seq (FC.region ?_)
      refine mv_ rfl rfl rfl ?_
      refine sg_ rfl rfl rfl ?_
      refine FL.nilK ?_
      refine FC.ret ?_
      repeat with_reducible first | refine thn_ret ?_ | refine blk_ret ?_ | refine nog_ret ?_
      refine ret1 Try.results44 rfl ⟨⟨_, rfl, ?_⟩, rfl⟩
      have h1 : c.any (isB bs) = true := List.any_eq_true.2 ⟨g c i, rd_mem c i (by omega) (by omega), hcc⟩
      rw [h1]
      exact decide_eq_true (by omega)
    · rw [hcc] at hst
      refine blk_normal (thn_normal ?_)
      refine FC.region ?_
      refine FL.pur rfl rfl (p_add rfl rfl ((wr (by omega) (by omega)).trans (show (i : Int) + 1 = ((i + 1 : Nat) : Int) by omega))) ?_
      refine mv_ rfl rfl rfl ?_
      refine FL.nil ?_
      exact ⟨i + 1, ⟨rfl, rfl, rfl, rfl, trivial⟩, ⟨rfl, hlt, hst⟩, by show c.length - (i + 1) < c.length - i; omega⟩
  rintro - w2 ⟨rfl, hn⟩
  refine FC.seq (FC.region ?_)
  refine sg_ rfl rfl rfl ?_
  refine FL.nilK ?_
  refine FC.ret ?_
  repeat with_reducible first | refine thn_ret ?_ | refine blk_ret ?_ | refine nog_ret ?_
  exact ret1 Try.results44 rfl ⟨⟨-1, rfl, by rw [hn]; rfl⟩, rfl⟩
theorem contains1_calls {v u : Value} {c : List Int} {bs : List Bool} (h : Row w B v c) (hb : BRow w B u bs) (hm : w.cell? ⟨mb, 0, none⟩ = some u) (hl : c.length < 4611686018427387904) (hbl : bs.length < 4611686018427387904) (hs : Small64 c) :
    Calls Try.prog 28 #[v, isV mb] w fun e w' => e = .returned (.bool (c.any (isB bs))) ∧ w = w' := by
  refine calls_of_FC (N := 9) (vs := [v, isV mb]) Try.func28 rfl Try.ntmps28 (Nat.le_of_ble_eq_true rfl) ?_
  refine FC.seq (FC.region ?_)
  refine sg_ rfl rfl rfl ?_
  refine FL.nilK ?_
  refine FC.seq (FC.region ?_)
  refine mv_ rfl rfl rfl ?_
  refine mv_ rfl rfl rfl ?_
  refine FL.call rfl rfl (p_call Try.func44 rfl rfl rfl) (index1_calls h hb hm hl hbl hs) ?_
  rintro e_ w_ ⟨⟨i, rfl, hi⟩, rfl⟩
  refine ⟨_, rfl, ?_⟩
  refine FL.pur rfl rfl (p_geq rfl rfl hi) ?_
  refine sg_ rfl rfl rfl ?_
  refine FL.nilK ?_
  refine FC.ret ?_
  repeat with_reducible first | refine thn_ret ?_ | refine blk_ret ?_ | refine nog_ret ?_
  exact ret1 Try.results28 rfl ⟨rfl, rfl⟩
theorem p_box1 {P : Program} {ρ : Env} {dst : Option Tmp} {ty : TypeId} {pos : String} {af : Array Edge} {gd : Option (Nat × Bool)} {t : TypeId} {x : Operand} {v : Value} {w : World} (hx : ev ρ x = some v) (hv : v.cells = #[v]) :
    Val P ρ ⟨dst, .box t x, ty, pos, af, gd⟩ w (.pointer (some ⟨w.heap.size, 0, none⟩)) (w.alloc (.cells #[v] t)) := fun a ha => by
  simp [execOp, Instr.box, newVar, newRow, newObj, ha.ev hx, hv, Sem.run, World.alloc_eq]
theorem BRow.fr {w w' : World} {v : Value} {d : List Bool} {F : Nat → Prop} (h : BRow w B v d) (hf : Fr F w w') (hb : ∀ k, k < B → ¬ F k) : BRow w' B v d := by
  obtain ⟨A, cap, rfl, h1⟩ := h
  refine ⟨A, cap, rfl, fun i hi => ?_⟩
  obtain ⟨ad, e1, e2, e3⟩ := h1 i hi
  exact ⟨ad, e1, e2, hf.cell e3 (by rw [add_block]; exact hb _ e2)⟩
theorem holds_calls {v u : Value} {cs : List (List Int)} {bs : List Bool} (h : Rws w B v cs) (hb : BRow w B u bs) (hl : cs.length < 4611686018427387904) (hll : ∀ c ∈ cs, c.length < 4611686018427387904 ∧ Small64 c) (hbl : bs.length < 4611686018427387904) :
    Calls Try.prog 14 #[v, u] w fun e w' => e = .returned (.bool (cs.all fun c => c.any (isB bs))) ∧ Fr (fun _ => False) w w' := by
  have h' := h
  obtain ⟨A, cap, rfl, _⟩ := h
  have hb' := hb
  obtain ⟨A2, cap2, rfl, _⟩ := hb
  refine calls_of_FC (N := 20) (vs := [.slice A cs.length cap, .slice A2 bs.length cap2]) Try.func14 rfl Try.ntmps14 (Nat.le_of_ble_eq_true rfl) ?_
  refine FC.seq (FC.region ?_)
  refine FL.val _ _ rfl rfl (p_box1 rfl rfl) ?_
  refine sg_ rfl rfl rfl ?_
  refine FL.nilK ?_
  refine FC.seq (FC.region ?_)
  refine FL.pur rfl rfl (p_func rfl) ?_
  refine sg_ rfl rfl rfl ?_
  refine FL.nilK ?_
  obtain ⟨w1, hw1⟩ : ∃ w1, w1 = w.alloc (.cells #[.slice A2 bs.length cap2] 23) := ⟨_, rfl⟩
  have f1 : Fr (fun _ => False) w w1 := by rw [hw1]; exact (Fr.refl _ _).alloc _
  have hm : w1.cell? ⟨w.heap.size, 0, none⟩ = some (.slice A2 bs.length cap2) := by rw [hw1]; exact (cell_of_row _ _ 0 _ _ _ (heap_alloc_new w _)).trans rfl
  have h1 := h'.fr f1 fun _ _ h => h
  have hb1 := hb'.fr f1 fun _ _ h => h
  rw [← hw1]
  obtain ⟨A', cap', e, hcell⟩ := h1
  injection e with e1 _ e3
  subst e1 e3
  refine FC.cut (σ := Unit) (fun _ => []) (fun _ w2 => w1 = w2 ∧ (cs.all fun c => c.any (isB bs)) = true) ?_ ?_
  · refine FC.seq (FC.region ?_)
    refine mv_ rfl rfl rfl ?_
    refine FL.pur rfl rfl (p_len rfl Try.underlying22) ?_
    refine mv_ rfl rfl rfl ?_
    refine FL.nilK ?_
    refine FC.block ?_
    refine FC.loop (σ := Nat) (fun x => [(5, isV w.heap.size), (9, .slice A cs.length cap), (10, .int .i64 cs.length), (11, .int .i64 x)]) (fun x w2 => w1 = w2 ∧ x ≤ cs.length ∧ ((cs.take x).all fun c => c.any (isB bs)) = true) (fun x => cs.length - x) 0 ⟨rfl, Nat.zero_le _, rfl⟩ ⟨rfl, rfl, rfl, rfl, trivial⟩ ?_
    rintro i w2 ⟨rfl, hi, hn⟩
    refine FC.seq (FC.region ?_)
    refine FL.pur rfl rfl (p_lss rfl rfl rfl) ?_
    refine FL.nilK ?_
    refine FC.seq ?_
    refine FC.cond (decide ((i : Int) < (cs.length : Int))) rfl (fun hcc => FC.skip (thn_normal ?_)) (fun hcc => FC.exit ?_)
    rotate_left
    · have hge : ¬ (i : Int) < (cs.length : Int) := of_decide_eq_false hcc
      rw [List.take_of_length_le (by omega)] at hn
      exact thn_exit (thn_exit (blk_exit ⟨(), trivial, rfl, hn⟩))
    have hlt : i < cs.length := by have := of_decide_eq_true hcc; omega
    obtain ⟨ad, u, rfl, _, hc0, hrow⟩ := hcell i hlt
    have hc1 : w1.cell? (ad.add i) = some u := hc0
    have hst := all_take (fun c => c.any (isB bs)) [] cs i hlt hn
    have hq := hll _ (mem_getD (d := []) hlt)
    refine FC.seq ?_
    refine FC.block ?_
    refine FC.seq (FC.region ?_)
    refine FL.pur rfl rfl (p_indexA rfl rfl Try.underlying22 inf41_eq inf41_size (by omega) (by omega)) ?_
    refine FL.val _ _ rfl rfl (p_load rfl Try.underlying41 rfl hc1) ?_
    refine sg_ rfl rfl rfl ?_
    refine FL.nilK ?_
    refine FC.seq (FC.region ?_)
    refine mv_ rfl rfl rfl ?_
    refine mv_ rfl rfl rfl ?_
    refine FL.call rfl rfl (p_call Try.func28 rfl rfl rfl) (contains1_calls hrow hb1 hm hq.1 hbl hq.2) ?_
    rintro e_ w_ ⟨rfl, rfl⟩
    refine ⟨_, rfl, ?_⟩
    refine FL.pur rfl rfl (p_not rfl) ?_
    refine FL.nilK ?_
    refine FC.cond (!((cs.getD i []).any (isB bs))) rfl (fun hcc => ?_) (fun hcc => FC.skip ?_)
    · refine FC.seq (FC.region ?_)
      refine sg_ rfl rfl rfl ?_
      refine FL.nilK ?_
      refine FC.ret ?_
      repeat with_reducible first | refine thn_ret ?_ | refine blk_ret ?_ | refine nog_ret ?_
      refine ret1 Try.results14 rfl ⟨?_, f1⟩
      have hno : (cs.all fun c => c.any (isB bs)) = false := by
        rw [Bool.eq_false_iff]
        intro hall
        have := List.all_eq_true.1 hall _ (mem_getD (d := []) hlt)
        rw [this] at hcc; cases hcc
      rw [hno]
    · have hcc : (cs.getD i []).any (isB bs) = true := by simpa using hcc
      refine blk_normal (thn_normal ?_)
      refine FC.region ?_
      refine FL.pur rfl rfl (p_add rfl rfl ((wr (by omega) (by omega)).trans (show (i : Int) + 1 = ((i + 1 : Nat) : Int) by omega))) ?_
      refine mv_ rfl rfl rfl ?_
      refine FL.nil ?_
      exact ⟨i + 1, ⟨rfl, rfl, rfl, rfl, trivial⟩, ⟨rfl, hlt, hst.trans hcc⟩, by show cs.length - (i + 1) < cs.length - i; omega⟩
  rintro - w2 ⟨rfl, hn⟩
  refine FC.seq (FC.region ?_)
  refine sg_ rfl rfl rfl ?_
  refine FL.nilK ?_
  refine FC.ret ?_
  repeat with_reducible first | refine thn_ret ?_ | refine blk_ret ?_ | refine nog_ret ?_
  exact ret1 Try.results14 rfl ⟨by rw [hn], f1⟩
end
end Go.Proofs.Ytcahhbcehnbdkaa.Sv

/- The reference's set of values and its unit clauses as plain laws. -/
namespace Go.Proofs.Ytcahhbcehnbdkaa.Sv
open Go.RowKit Go.Proofs.YtcahhbcehnbdkaaW.PrintWords

/-- What a literal is worth by a list of values. -/
def sg (vs : List Int) (l : Int) : Int := if l < 0 then -(rd vs (-l)) else rd vs l
def pt (vs : List Int) (l : Int) : List Int := vs.set (av l).toNat (if l < 0 then -1 else 1)
section
variable {m : Nat} {vs : List Int}
structure Vo (m : Nat) (vs : List Int) : Prop where
  len : vs.length = m + 1
  small : Small vs
theorem rd_small (h : Vo m vs) {i : Int} (h0 : 0 ≤ i) (h1 : i < m + 1) : -1 ≤ rd vs i ∧ rd vs i ≤ 1 := h.small _ (rd_mem vs i h0 (by have := h.len; omega))
theorem sg_small (h : Vo m vs) {l : Int} (hl : Lit (m + 1) l) : -1 ≤ sg vs l ∧ sg vs l ≤ 1 := by
  obtain ⟨h1, h2⟩ := hl
  unfold sg
  split
  · have := rd_small h (i := -l) (by omega) (by omega); omega
  · exact rd_small h (by omega) (by omega)
theorem sg_neg {l : Int} (h : l ≠ 0) : sg vs (-l) = -sg vs l := by
  unfold sg
  by_cases c : l < 0
  · rw [if_neg (by omega), if_pos c]; simp
  · rw [if_pos (by omega), if_neg c]; simp
theorem Vo.pt (h : Vo m vs) (l : Int) : Vo m (pt vs l) := ⟨by simp [Sv.pt, h.len], small_set h.small _ l⟩
theorem sg_pt_self (h : Vo m vs) {l : Int} (hl : Lit (m + 1) l) : sg (pt vs l) l = 1 := by
  have ha := av_lt hl
  have := h.len
  unfold sg pt
  by_cases c : l < 0
  · rw [if_pos c, if_pos c]
    have e : (-l).toNat = (av l).toNat := by unfold av; omega
    unfold rd; rw [e, getD_set_self (by omega)]; rfl
  · rw [if_neg c, if_neg c]
    have e : l.toNat = (av l).toNat := by unfold av; omega
    unfold rd; rw [e, getD_set_self (by omega)]
theorem sg_pt_other {l x : Int} (h : (av l).toNat ≠ (av x).toNat) : sg (pt vs l) x = sg vs x := by
  unfold sg pt
  by_cases c : x < 0
  · rw [if_pos c, if_pos c]
    have e : (-x).toNat = (av x).toNat := by unfold av; omega
    unfold rd; rw [e, getD_set_other h]
  · rw [if_neg c, if_neg c]
    have e : x.toNat = (av x).toNat := by unfold av; omega
    unfold rd; rw [e, getD_set_other h]
theorem sg_zero (h : Vo m vs) {l : Int} (hl : Lit (m + 1) l) (h0 : sg vs l = 0) : ∃ h : (av l).toNat < vs.length, vs[(av l).toNat] = 0 := by
  have hlen := h.len
  have ha := av_lt hl
  obtain ⟨h1, h2⟩ := hl
  refine ⟨by omega, ?_⟩
  unfold sg at h0
  by_cases c : l < 0
  · rw [if_pos c, rd_of_lt _ _ (by omega) (by omega)] at h0
    have e : (av l).toNat = (-l).toNat := by unfold av; omega
    simp only [e]; omega
  · rw [if_neg c, rd_of_lt _ _ (by omega) (by omega)] at h0
    have e : (av l).toNat = l.toNat := by unfold av; omega
    simp only [e]; exact h0
theorem zeros_pt (h : Vo m vs) {l : Int} (hl : Lit (m + 1) l) (h0 : sg vs l = 0) : zeros (pt vs l) + 1 = zeros vs := by
  obtain ⟨h1, h2⟩ := sg_zero h hl h0
  exact zeros_set_ne h1 h2 (by split <;> omega)

/-! ### unit -/
def unitL (vs : List Int) : List Int → Int → Int × Bool
  | [], o => (o, o != 0)
  | l :: r, o => if sg vs l = 1 then (0, true) else if sg vs l = 0 ∧ o ≠ 0 ∧ o ≠ l then (0, true) else unitL vs r (if sg vs l = 0 then l else o)
theorem unit_no (h : Vo m vs) : ∀ (r : List Int) (o u : Int), (∀ l ∈ r, Lit (m + 1) l ∧ l ≠ 0) → unitL vs r o = (u, false) → o = 0 ∧ ∀ x ∈ r, sg vs x = -1
  | [], o, u, _, e => by
    simp only [unitL, Prod.mk.injEq] at e
    refine ⟨?_, by simp⟩
    have := e.2
    simpa using this
  | l :: r, o, u, hc, e => by
    unfold unitL at e
    have hs := sg_small h (hc l (by simp)).1
    split at e
    · cases e
    · split at e
      · cases e
      · rename_i c1 c2
        obtain ⟨a, b⟩ := unit_no h r _ u (fun x hx => hc x (by simp [hx])) e
        by_cases c3 : sg vs l = 0
        · rw [if_pos c3] at a
          exact absurd a (hc l (by simp)).2
        · rw [if_neg c3] at a
          refine ⟨a, fun x hx => ?_⟩
          rcases List.mem_cons.1 hx with rfl | hx
          · omega
          · exact b x hx
theorem unit_one (h : Vo m vs) : ∀ (r : List Int) (o u : Int), (∀ l ∈ r, Lit (m + 1) l ∧ l ≠ 0) → unitL vs r o = (u, true) → u ≠ 0 → (o ≠ 0 → u = o) ∧ (u = o ∨ (u ∈ r ∧ sg vs u = 0)) ∧ ∀ x ∈ r, x ≠ u → sg vs x = -1
  | [], o, u, _, e, hu => by
    simp only [unitL, Prod.mk.injEq] at e
    exact ⟨fun _ => e.1.symm, .inl e.1.symm, by simp⟩
  | l :: r, o, u, hc, e, hu => by
    unfold unitL at e
    have hs := sg_small h (hc l (by simp)).1
    split at e
    · injection e with e1 _; exact absurd e1.symm hu
    · split at e
      · injection e with e1 _; exact absurd e1.symm hu
      · rename_i c1 c2
        obtain ⟨a, b, d⟩ := unit_one h r _ u (fun x hx => hc x (by simp [hx])) e hu
        by_cases c3 : sg vs l = 0
        · rw [if_pos c3] at a b
          have e1 := a (hc l (by simp)).2
          refine ⟨fun ho => ?_, .inr ⟨by simp [e1], by rw [e1]; exact c3⟩, fun x hx hne => ?_⟩
          · rw [e1]
            exact Classical.byContradiction fun hh => c2 ⟨c3, ho, fun hh' => hh hh'.symm⟩
          · rcases List.mem_cons.1 hx with rfl | hx
            · exact absurd e1.symm hne
            · exact d x hx hne
        · rw [if_neg c3] at a b
          refine ⟨a, b.imp id fun ⟨h1, h2⟩ => ⟨by simp [h1], h2⟩, fun x hx hne => ?_⟩
          rcases List.mem_cons.1 hx with rfl | hx
          · omega
          · exact d x hx hne
theorem unit_sat (h : Vo m vs) : ∀ (r : List Int) (o : Int), (∀ l ∈ r, Lit (m + 1) l ∧ l ≠ 0) → unitL vs r o = (0, true) → ∀ l, l ≠ 0 → (o = 0 ∨ o = l) → (∀ x ∈ r, x ≠ l → sg vs x = -1) → l ∈ r ∧ sg vs l = 1
  | [], o, _, e, l, hl, ho, _ => by
    simp only [unitL, Prod.mk.injEq] at e
    rw [e.1] at e
    simp at e
  | a :: r, o, hc, e, l, hl, ho, hx => by
    unfold unitL at e
    have hs := sg_small h (hc a (by simp)).1
    have hal : a ≠ l → sg vs a = -1 := hx a (by simp)
    split at e
    · rename_i c1
      by_cases c : a = l
      · subst c; exact ⟨by simp, c1⟩
      · have := hal c; omega
    · split at e
      · rename_i c1 c2
        obtain ⟨d1, d2, d3⟩ := c2
        by_cases c : a = l
        · subst c
          rcases ho with ho | ho
          · exact absurd ho d2
          · exact absurd ho d3
        · have := hal c; omega
      · rename_i c1 c2
        have ho' : (if sg vs a = 0 then a else o) = 0 ∨ (if sg vs a = 0 then a else o) = l := by
          split
          · rename_i c3
            right
            exact Classical.byContradiction fun hh => by have := hal hh; omega
          · exact ho
        obtain ⟨p, q⟩ := unit_sat h r _ (fun x hx => hc x (by simp [hx])) e l hl ho' (fun x hx' hne => hx x (by simp [hx']) hne)
        exact ⟨by simp [p], q⟩

/-! ### Follows -/
structure Fo (m : Nat) (Φ : List (List Int)) (c : List Int) (vs : List Int) : Prop where
  vo : Vo m vs
  has : ∀ l ∈ c, sg vs (-l) = 1
  sound : ∀ x, Lit (m + 1) x → x ≠ 0 → sg vs x = 1 → D Φ (fun l => -l ∈ c) x
section
variable {Φ : List (List Int)} {c : List Int}
theorem Fo.conf (h : Fo m Φ c vs) (hΦ : ∀ d ∈ Φ, ∀ l ∈ d, Lit (m + 1) l ∧ l ≠ 0) {d : List Int} (hd : d ∈ Φ) (hf : ∀ x ∈ d, sg vs x = -1) : Conf Φ fun l => -l ∈ c :=
  ⟨d, hd, fun x hx => h.sound _ (hΦ d hd x hx).1.neg (by have := (hΦ d hd x hx).2; omega) (by rw [sg_neg (hΦ d hd x hx).2, hf x hx]; rfl)⟩
theorem Fo.put (h : Fo m Φ c vs) (hΦ : ∀ d ∈ Φ, ∀ l ∈ d, Lit (m + 1) l ∧ l ≠ 0) (hcc : ∀ l ∈ c, Lit (m + 1) l ∧ l ≠ 0) {d : List Int} (hd : d ∈ Φ) {u : Int} (hu : u ∈ d) (h0 : sg vs u = 0) (hf : ∀ x ∈ d, x ≠ u → sg vs x = -1) : Fo m Φ c (pt vs u) where
  vo := h.vo.pt u
  has := fun l hl => by
    have h1 := h.has l hl
    refine (sg_pt_other fun e => ?_).trans h1
    rcases av_inj e with e | e
    · rw [e] at h0; omega
    · have := sg_neg (vs := vs) (l := l) (hcc l hl).2
      rw [e, Int.neg_neg] at h0
      omega
  sound := fun x hx hz h1 => by
    by_cases e : (av u).toNat = (av x).toNat
    · rcases av_inj e with e | e
      · subst e
        exact .unit hd hu fun y hy hne => h.sound _ (hΦ d hd y hy).1.neg (by have := (hΦ d hd y hy).2; omega) (by rw [sg_neg (hΦ d hd y hy).2, hf y hy hne]; rfl)
      · have e2 : x = -u := by omega
        have := sg_neg (vs := pt vs u) (l := u) (hΦ d hd u hu).2
        rw [sg_pt_self h.vo (hΦ d hd u hu).1, ← e2] at this
        omega
    · rw [sg_pt_other e] at h1
      exact h.sound x hx hz h1
theorem Fo.closed (h : Fo m Φ c vs) (hΦ : ∀ d ∈ Φ, ∀ l ∈ d, Lit (m + 1) l ∧ l ≠ 0) (hcc : ∀ l ∈ c, Lit (m + 1) l ∧ l ≠ 0) (hu : ∀ d ∈ Φ, unitL vs d 0 = (0, true)) : ¬ Conf Φ fun l => -l ∈ c := by
  have main : ∀ x, D Φ (fun l => -l ∈ c) x → x ≠ 0 ∧ Lit (m + 1) x ∧ sg vs x = 1 := fun x hx => by
    induction hx with
    | @base l h1 =>
      have h1 : -l ∈ c := h1
      have := h.has _ h1
      rw [Int.neg_neg] at this
      have h2 := hcc _ h1
      exact ⟨by omega, by have := h2.1.neg; rwa [Int.neg_neg] at this, this⟩
    | @unit d l h1 h2 _ ih =>
      obtain ⟨hL, hz⟩ := hΦ d h1 l h2
      refine ⟨hz, hL, (unit_sat h.vo d 0 (hΦ d h1) (hu d h1) l hz (.inl rfl) fun x hx hne => ?_).2⟩
      have h3 := (ih x hx hne).2.2
      rw [sg_neg (hΦ d h1 x hx).2] at h3
      omega
  rintro ⟨d, hd, h1⟩
  have hf : ∀ x ∈ d, sg vs x = -1 := fun x hx => by
    have h3 := (main _ (h1 x hx)).2.2
    rw [sg_neg (hΦ d hd x hx).2] at h3
    omega
  by_cases e : ∃ l, l ∈ d
  · obtain ⟨l, hl⟩ := e
    have := (unit_sat h.vo d 0 (hΦ d hd) (hu d hd) l (hΦ d hd l hl).2 (.inl rfl) fun x hx _ => hf x hx).2
    have := hf l hl
    omega
  · have e2 : d = [] := List.eq_nil_iff_forall_not_mem.2 fun l hl => e ⟨l, hl⟩
    have := hu d hd
    rw [e2] at this
    simp [unitL] at this
/-- The negations of the first literals are set. -/
structure Fa (m : Nat) (c : List Int) (i : Nat) (vs : List Int) : Prop where
  vo : Vo m vs
  iff : ∀ x, Lit (m + 1) x → x ≠ 0 → (sg vs x = 1 ↔ -x ∈ c.take i)
theorem vo_new (m : Nat) : Vo m (List.replicate (m + 1) 0) := ⟨by simp, fun x hx => by rw [List.eq_of_mem_replicate hx]; omega⟩
end
end
/-! ### Many -/
def sumL (cs : List (List Int)) : Nat := (cs.map List.length).sum
def manyV (cs : List (List Int)) (lim : Nat) : Bool := decide (lim < cs.length) || decide (lim < sumL cs)
section
variable {cs : List (List Int)}
theorem many_no {lim : Nat} (h : manyV cs lim = false) : cs.length ≤ lim ∧ ∀ c ∈ cs, c.length ≤ lim := by
  simp only [manyV, Bool.or_eq_false_iff, decide_eq_false_iff_not] at h
  refine ⟨by omega, fun c hc => ?_⟩
  have : c.length ≤ sumL cs := by
    unfold sumL
    obtain ⟨q, hq, rfl⟩ := List.mem_iff_getElem.1 hc
    have := le_sum cs q
    rwa [List.getD_eq_getElem?_getD, List.getElem?_eq_getElem hq] at this
  omega
end
end Go.Proofs.Ytcahhbcehnbdkaa.Sv

/- Walks of the reference: sign, put, unit, Follows. -/
namespace Go.Proofs.Ytcahhbcehnbdkaa.Sv
open Go.RowKit Go.Proofs.YtcahhbcehnbdkaaW.PrintWords Go.Proofs.YtcahhbcehnbdkaaW.PrintLast Go.Proofs.Ytcahhbcehnbdkaa.Eng

/-- A block of whole numbers. -/
def Vec (w : World) (b : Nat) (vs : List Int) : Prop := ∃ cells, w.heap[b]? = some (.cells cells 3 (0, 0)) ∧ cells.toList = nums .i64 vs
section
variable {w w' : World} {B b m : Nat} {vs : List Int}
theorem Vec.at (h : Vec w b vs) (i : Nat) (hi : i < vs.length) : w.cell? ⟨b, i, none⟩ = some (.int .i64 (g vs i)) := by
  obtain ⟨cells, h1, h2⟩ := h
  rw [cell_of_row w b i _ _ _ h1, ← Array.getElem?_toList, h2]
  simp [nums, g, hi]
theorem Vec.unfr (h : Vec w b vs) (i : Nat) : w.frozen? ⟨b, i, none⟩ = false := by
  obtain ⟨cells, h1, h2⟩ := h
  exact blk_frozen h1 i
theorem Vec.lt (h : Vec w b vs) : b < w.heap.size := by
  obtain ⟨cells, h1, h2⟩ := h
  exact (Array.getElem?_eq_some_iff.1 h1).1
theorem Vec.set (h : Vec w b vs) (i : Nat) (x : Int) : Vec (w.setCell ⟨b, i, none⟩ (.int .i64 x)) b (vs.set i x) := by
  obtain ⟨cells, h1, h2⟩ := h
  refine ⟨_, setCell_heap_self h1 i _, ?_⟩
  rw [Array.toList_setIfInBounds, h2]
  simp [nums, List.map_set]
theorem Vec.fr {F : Nat → Prop} (h : Vec w b vs) (hf : Fr F w w') (hn : ¬ F b) : Vec w' b vs := by
  have hl := h.lt
  obtain ⟨cells, h1, h2⟩ := h
  exact ⟨cells, (hf.block b hl hn).trans h1, h2⟩
theorem Vec.row (h : Vec w b vs) (hb : b < B) (cap : Nat) : Row w B (.slice (some ⟨b, 0, none⟩) vs.length cap) vs :=
  ⟨_, cap, rfl, fun i hi => ⟨_, rfl, hb, by rw [addr_add, Nat.zero_add]; exact h.at i hi⟩⟩
theorem sign_calls {v : Value} (hr : Row w B v vs) (hm : m ≤ 5000) (h : Vo m vs) {l : Int} (hL : Lit (m + 1) l) (hz : l ≠ 0) : Calls Try.prog 49 #[v, .int .i64 l] w fun e w' => e = .returned (.int .i64 (sg vs l)) ∧ w = w' := by
  have hlen := h.len
  obtain ⟨A, cap, rfl, hcell⟩ := hr
  obtain ⟨hL1, hL2⟩ := hL
  refine calls_of_FC (N := 17) (vs := [.slice A vs.length cap, .int .i64 l]) Try.func49 rfl Try.ntmps49 (Nat.le_of_ble_eq_true rfl) ?_
  refine FC.seq (FC.region ?_)
  refine sg_ rfl rfl rfl ?_
  refine FL.nilK ?_
  refine FC.seq ?_
  refine FC.seq (FC.region ?_)
  refine mv_ rfl rfl rfl ?_
  refine FL.pur rfl rfl (p_gtr rfl rfl rfl) ?_
  refine FL.nilK ?_
  refine FC.cond (decide (0 < l)) rfl (fun hc => ?_) (fun hc => FC.skip (thn_normal ?_))
  · have hc := of_decide_eq_true hc
    obtain ⟨ad, rfl, _, hce⟩ := hcell l.toNat (by omega)
    refine FC.seq (FC.region ?_)
    refine mv_ rfl rfl rfl ?_
    refine mv_ rfl rfl rfl ?_
    refine FL.pur rfl rfl (p_indexA rfl rfl Try.underlying41 inf3_eq inf3_size (by omega) (by omega)) ?_
    refine FL.val _ _ rfl rfl (p_load rfl Try.underlying3 rfl hce) ?_
    refine sg_ rfl rfl rfl ?_
    refine FL.nilK ?_
    refine FC.ret ?_
    repeat with_reducible first | refine thn_ret ?_ | refine blk_ret ?_ | refine nog_ret ?_
    exact ret1 Try.results49 rfl ⟨by unfold sg; rw [if_neg (by omega)]; rfl, rfl⟩
  · have hc := of_decide_eq_false hc
    obtain ⟨ad, rfl, _, hce⟩ := hcell (-l).toNat (by omega)
    have hs := rd_small h (i := -l) (by omega) (by omega)
    have hce : w.cell? (ad.add (-l).toNat) = some (.int .i64 (rd vs (-l))) := hce
    refine FC.seq (FC.region ?_)
    refine mv_ rfl rfl rfl ?_
    refine mv_ rfl rfl rfl ?_
    refine FL.pur rfl rfl (p_neg rfl (wr (by omega) (by omega))) ?_
    refine FL.pur rfl rfl (p_indexA rfl rfl Try.underlying41 inf3_eq inf3_size (by omega) (by omega)) ?_
    refine FL.val _ _ rfl rfl (p_load rfl Try.underlying3 rfl hce) ?_
    refine FL.pur rfl rfl (p_neg rfl (wr (by omega) (by omega))) ?_
    refine sg_ rfl rfl rfl ?_
    refine FL.nilK ?_
    refine FC.ret ?_
    repeat with_reducible first | refine thn_ret ?_ | refine blk_ret ?_ | refine nog_ret ?_
    exact ret1 Try.results49 rfl ⟨by unfold sg; rw [if_pos (by omega)], rfl⟩
theorem putv_calls {cap : Nat} (hv : Vec w b vs) (hm : m ≤ 5000) (h : Vo m vs) {l : Int} (hL : Lit (m + 1) l) (hz : l ≠ 0) : Calls Try.prog 50 #[.slice (some ⟨b, 0, none⟩) vs.length cap, .int .i64 l] w fun e w' => e = .returned (.tuple #[]) ∧ Vec w' b (pt vs l) ∧ Fr (fun k => k = b) w w' := by
  have hlen := h.len
  obtain ⟨hL1, hL2⟩ := hL
  have hf : ∀ (i : Nat) (x : Value), Fr (fun k => k = b) w (w.setCell ⟨b, i, none⟩ x) := fun i x => ⟨rfl, rfl, rfl, by rw [setCell_size]; exact Nat.le_refl _, fun k _ hk => Below.heap_setCell w _ x k hk⟩
  refine calls_of_FC (N := 13) (vs := [.slice (some ⟨b, 0, none⟩) vs.length cap, .int .i64 l]) Try.func50 rfl Try.ntmps50 (Nat.le_of_ble_eq_true rfl) ?_
  refine FC.seq (FC.region ?_)
  refine mv_ rfl rfl rfl ?_
  refine FL.pur rfl rfl (p_gtr rfl rfl rfl) ?_
  refine FL.nilK ?_
  refine FC.cond (decide (0 < l)) rfl (fun hc => ?_) (fun hc => ?_)
  · have hc := of_decide_eq_true hc
    refine FC.region ?_
    refine mv_ rfl rfl rfl ?_
    refine mv_ rfl rfl rfl ?_
    refine FL.pur rfl rfl (idx41 rfl rfl (by omega) (by omega)) ?_
    refine FL.sto _ rfl (st3 rfl rfl rfl (hv.at l.toNat (by omega)) (hv.unfr _)) ?_
    refine FL.nil ?_
    refine end0 Try.results50 ⟨rfl, ?_, hf _ _⟩
    unfold pt
    rw [if_neg (by omega), show (av l).toNat = l.toNat by unfold av; omega]
    exact hv.set _ _
  · have hc := of_decide_eq_false hc
    refine FC.region ?_
    refine mv_ rfl rfl rfl ?_
    refine mv_ rfl rfl rfl ?_
    refine FL.pur rfl rfl (p_neg rfl (wr (by omega) (by omega))) ?_
    refine FL.pur rfl rfl (idx41 rfl rfl (by omega) (by omega)) ?_
    refine FL.sto _ rfl (st3 rfl rfl rfl (hv.at (-l).toNat (by omega)) (hv.unfr _)) ?_
    refine FL.nil ?_
    refine end0 Try.results50 ⟨rfl, ?_, hf _ _⟩
    unfold pt
    rw [if_pos (by omega), show (av l).toNat = (-l).toNat by unfold av; omega]
    exact hv.set _ _
theorem unitL_drop (c : List Int) (i : Nat) (h : i < c.length) (o : Int) : unitL vs (c.drop i) o = if sg vs (g c i) = 1 then (0, true) else if sg vs (g c i) = 0 ∧ o ≠ 0 ∧ o ≠ g c i then (0, true) else unitL vs (c.drop (i + 1)) (if sg vs (g c i) = 0 then g c i else o) := by
  rw [drop_g c i h]
  rfl
set_option maxHeartbeats 2000000 in
theorem unit_calls {v u : Value} {c : List Int} (hv : Row w B v vs) (hr : Row w B u c) (hm : m ≤ 5000) (h : Vo m vs) (hc : ∀ l ∈ c, Lit (m + 1) l ∧ l ≠ 0) (hl : c.length < 4611686018427387904) :
    Calls Try.prog 51 #[v, u] w fun e w' => e = .returned (.tuple #[.int .i64 (unitL vs c 0).1, .bool (unitL vs c 0).2]) ∧ w = w' := by
  obtain ⟨A, cap, rfl, hcell⟩ := hr
  refine calls_of_FC (N := 57) (vs := [v, .slice A c.length cap]) Try.func51 rfl Try.ntmps51 (Nat.le_of_ble_eq_true rfl) ?_
  refine FC.seq (FC.region ?_)
  refine sg_ rfl rfl rfl ?_
  refine sg_ rfl rfl rfl ?_
  refine FL.nilK ?_
  refine FC.seq (FC.region ?_)
  refine sg_ rfl rfl rfl ?_
  refine FL.nilK ?_
  refine FC.cut (σ := Int) (fun o => [(6, .int .i64 o)]) (fun o w2 => w = w2 ∧ unitL vs c 0 = (o, o != 0)) ?_ ?_
  · refine FC.seq (FC.region ?_)
    refine sg_ rfl rfl rfl ?_
    refine FL.nilK ?_
    refine FC.block ?_
    refine FC.loop (σ := Nat × Int) (fun x => [(0, v), (1, .slice A c.length cap), (6, .int .i64 x.2), (7, .int .i64 x.1)]) (fun x w2 => w = w2 ∧ x.1 ≤ c.length ∧ unitL vs (c.drop x.1) x.2 = unitL vs c 0) (fun x => c.length - x.1) (0, 0) ⟨rfl, Nat.zero_le _, by rw [List.drop_zero]⟩ ⟨rfl, rfl, rfl, rfl, trivial⟩ ?_
    rintro ⟨i, o⟩ w2 ⟨rfl, hi, hn⟩
    simp only at hi hn ⊢
    refine FC.seq ?_
    refine FC.seq (FC.region ?_)
    refine mv_ rfl rfl rfl ?_
    refine mv_ rfl rfl rfl ?_
    refine FL.pur rfl rfl (p_len rfl Try.underlying41) ?_
    refine FL.pur rfl rfl (p_lss rfl rfl rfl) ?_
    refine FL.nilK ?_
    refine FC.cond (decide ((i : Int) < (c.length : Int))) rfl (fun hcc => FC.skip (thn_normal ?_)) (fun hcc => FC.exit ?_)
    rotate_left
    · have hge : ¬ (i : Int) < (c.length : Int) := of_decide_eq_false hcc
      rw [List.drop_eq_nil_of_le (by omega)] at hn
      exact thn_exit (thn_exit (blk_exit ⟨o, ⟨rfl, trivial⟩, rfl, hn.symm⟩))
    have hlt : i < c.length := by have := of_decide_eq_true hcc; omega
    obtain ⟨ad, rfl, _, hce⟩ := hcell i hlt
    have hce : w.cell? (ad.add (i : Int).toNat) = some (.int .i64 (g c i)) := hce
    obtain ⟨hL, hz⟩ := hc (g c i) (rd_mem c i (by omega) (by omega))
    have ks := sign_calls hv hm h hL hz
    rw [unitL_drop c i hlt] at hn
    refine FC.seq ?_
    refine FC.block ?_
    refine FC.block ?_
    by_cases c1 : sg vs (g c i) = 1
    · rw [if_pos c1] at hn
      refine FC.seq (FC.region ?_)
      refine mv_ rfl rfl rfl ?_
      refine mv_ rfl rfl rfl ?_
      refine mv_ rfl rfl rfl ?_
      refine FL.pur rfl rfl (p_indexA rfl rfl Try.underlying41 inf3_eq inf3_size (by omega) (by omega)) ?_
      refine FL.val _ _ rfl rfl (p_load rfl Try.underlying3 rfl hce) ?_
      refine FL.call rfl rfl (p_call Try.func49 rfl rfl rfl) (ks) ?_
      rintro e_ w_ ⟨rfl, rfl⟩
      refine ⟨_, rfl, ?_⟩
      refine FL.pur rfl rfl (p_eql rfl rfl (decide_eq_true c1)) ?_
      refine sg_ rfl rfl rfl ?_
      refine FL.nilK ?_
      refine FC.cond_t rfl ?_
      refine FC.seq (FC.region ?_)
      refine sg_ rfl rfl rfl ?_
      refine sg_ rfl rfl rfl ?_
      refine FL.nilK ?_
      refine FC.ret ?_
      repeat with_reducible first | refine thn_ret ?_ | refine blk_ret ?_ | refine nog_ret ?_
      exact ret2 Try.results51 rfl rfl ⟨by rw [← hn], rfl⟩
    rw [if_neg c1] at hn
    refine FC.seq (FC.region ?_)
    refine mv_ rfl rfl rfl ?_
    refine mv_ rfl rfl rfl ?_
    refine mv_ rfl rfl rfl ?_
    refine FL.pur rfl rfl (p_indexA rfl rfl Try.underlying41 inf3_eq inf3_size (by omega) (by omega)) ?_
    refine FL.val _ _ rfl rfl (p_load rfl Try.underlying3 rfl hce) ?_
    refine FL.call rfl rfl (p_call Try.func49 rfl rfl rfl) (ks) ?_
    rintro e_ w_ ⟨rfl, rfl⟩
    refine ⟨_, rfl, ?_⟩
    refine FL.pur rfl rfl (p_eql rfl rfl (decide_eq_false c1)) ?_
    refine sg_ rfl rfl rfl ?_
    refine FL.nilK ?_
    refine FC.cond_f rfl ?_
    by_cases c2 : sg vs (g c i) = 0
    rotate_left
    · rw [if_neg (fun hh => c2 hh.1), if_neg c2] at hn
      refine FC.seq (FC.region ?_)
      refine mv_ rfl rfl rfl ?_
      refine mv_ rfl rfl rfl ?_
      refine mv_ rfl rfl rfl ?_
      refine FL.pur rfl rfl (p_indexA rfl rfl Try.underlying41 inf3_eq inf3_size (by omega) (by omega)) ?_
      refine FL.val _ _ rfl rfl (p_load rfl Try.underlying3 rfl hce) ?_
      refine FL.call rfl rfl (p_call Try.func49 rfl rfl rfl) (ks) ?_
      rintro e_ w_ ⟨rfl, rfl⟩
      refine ⟨_, rfl, ?_⟩
      refine FL.pur rfl rfl (p_eql rfl rfl (decide_eq_false c2)) ?_
      refine mv_ rfl rfl rfl ?_
      refine FL.off rfl rfl ?_
      refine FL.off rfl rfl ?_
      refine FL.pur rfl rfl (p_pick_f rfl rfl) ?_
      refine mv_ rfl rfl rfl ?_
      refine FL.off rfl rfl ?_
      refine FL.off rfl rfl ?_
      refine FL.off rfl rfl ?_
      refine FL.off rfl rfl ?_
      refine FL.off rfl rfl ?_
      refine FL.off rfl rfl ?_
      refine FL.pur rfl rfl (p_pick_f rfl rfl) ?_
      refine sg_ rfl rfl rfl ?_
      refine FL.nilK ?_
      refine FC.cond_f rfl ?_
      refine FC.seq (FC.region ?_)
      refine mv_ rfl rfl rfl ?_
      refine mv_ rfl rfl rfl ?_
      refine mv_ rfl rfl rfl ?_
      refine FL.pur rfl rfl (p_indexA rfl rfl Try.underlying41 inf3_eq inf3_size (by omega) (by omega)) ?_
      refine FL.val _ _ rfl rfl (p_load rfl Try.underlying3 rfl hce) ?_
      refine FL.call rfl rfl (p_call Try.func49 rfl rfl rfl) (ks) ?_
      rintro e_ w_ ⟨rfl, rfl⟩
      refine ⟨_, rfl, ?_⟩
      refine FL.pur rfl rfl (p_eql rfl rfl (decide_eq_false c2)) ?_
      refine sg_ rfl rfl rfl ?_
      refine FL.nilK ?_
      refine FC.cond_f rfl (FC.skip ?_)
      refine blk_normal (blk_normal (thn_normal ?_))
      refine FC.region ?_
      refine mv_ rfl rfl rfl ?_
      refine FL.pur rfl rfl (p_add rfl rfl ((wr (by omega) (by omega)).trans (show (i : Int) + 1 = ((i + 1 : Nat) : Int) by omega))) ?_
      refine sg_ rfl rfl rfl ?_
      refine FL.nil ?_
      exact ⟨(i + 1, o), ⟨rfl, rfl, rfl, rfl, trivial⟩, ⟨rfl, hlt, hn⟩, by show c.length - (i + 1) < c.length - i; omega⟩
    have fin : (sg vs (g c i) = 0 ∧ o ≠ 0 ∧ o ≠ g c i) ∨ ((o = 0 ∨ o = g c i) ∧ unitL vs (c.drop (i + 1)) (g c i) = unitL vs c 0) := by
      by_cases c3 : o ≠ 0 ∧ o ≠ g c i
      · exact .inl ⟨c2, c3⟩
      · rw [if_neg (fun hh => c3 hh.2), if_pos c2] at hn
        exact .inr ⟨by omega, hn⟩
    rcases fin with c3 | ⟨c3, hn⟩
    · rw [if_pos c3] at hn
      refine FC.seq (FC.region ?_)
      refine mv_ rfl rfl rfl ?_
      refine mv_ rfl rfl rfl ?_
      refine mv_ rfl rfl rfl ?_
      refine FL.pur rfl rfl (p_indexA rfl rfl Try.underlying41 inf3_eq inf3_size (by omega) (by omega)) ?_
      refine FL.val _ _ rfl rfl (p_load rfl Try.underlying3 rfl hce) ?_
      refine FL.call rfl rfl (p_call Try.func49 rfl rfl rfl) (ks) ?_
      rintro e_ w_ ⟨rfl, rfl⟩
      refine ⟨_, rfl, ?_⟩
      refine FL.pur rfl rfl (p_eql rfl rfl (decide_eq_true c2)) ?_
      refine mv_ rfl rfl rfl ?_
      refine mv_ rfl rfl rfl ?_
      refine FL.pur rfl rfl (p_neq rfl rfl (show _ = !true by simp [c3.2.1])) ?_
      refine FL.pur rfl rfl (p_pick_t rfl rfl) ?_
      refine mv_ rfl rfl rfl ?_
      refine mv_ rfl rfl rfl ?_
      refine mv_ rfl rfl rfl ?_
      refine mv_ rfl rfl rfl ?_
      refine FL.pur rfl rfl (p_indexA rfl rfl Try.underlying41 inf3_eq inf3_size (by omega) (by omega)) ?_
      refine FL.val _ _ rfl rfl (p_load rfl Try.underlying3 rfl hce) ?_
      refine FL.pur rfl rfl (p_neq rfl rfl (show _ = !true by simp [c3.2.2])) ?_
      refine FL.pur rfl rfl (p_pick_t rfl rfl) ?_
      refine sg_ rfl rfl rfl ?_
      refine FL.nilK ?_
      refine FC.cond_t rfl ?_
      refine FC.seq (FC.region ?_)
      refine sg_ rfl rfl rfl ?_
      refine sg_ rfl rfl rfl ?_
      refine FL.nilK ?_
      refine FC.ret ?_
      repeat with_reducible first | refine thn_ret ?_ | refine blk_ret ?_ | refine nog_ret ?_
      exact ret2 Try.results51 rfl rfl ⟨by rw [← hn], rfl⟩
    by_cases c4 : o = 0
    · refine FC.seq (FC.region ?_)
      refine mv_ rfl rfl rfl ?_
      refine mv_ rfl rfl rfl ?_
      refine mv_ rfl rfl rfl ?_
      refine FL.pur rfl rfl (p_indexA rfl rfl Try.underlying41 inf3_eq inf3_size (by omega) (by omega)) ?_
      refine FL.val _ _ rfl rfl (p_load rfl Try.underlying3 rfl hce) ?_
      refine FL.call rfl rfl (p_call Try.func49 rfl rfl rfl) (ks) ?_
      rintro e_ w_ ⟨rfl, rfl⟩
      refine ⟨_, rfl, ?_⟩
      refine FL.pur rfl rfl (p_eql rfl rfl (decide_eq_true c2)) ?_
      refine mv_ rfl rfl rfl ?_
      refine mv_ rfl rfl rfl ?_
      refine FL.pur rfl rfl (p_neq rfl rfl (show _ = !false by simp [c4])) ?_
      refine FL.pur rfl rfl (p_pick_t rfl rfl) ?_
      refine mv_ rfl rfl rfl ?_
      refine FL.off rfl rfl ?_
      refine FL.off rfl rfl ?_
      refine FL.off rfl rfl ?_
      refine FL.off rfl rfl ?_
      refine FL.off rfl rfl ?_
      refine FL.off rfl rfl ?_
      refine FL.pur rfl rfl (p_pick_f rfl rfl) ?_
      refine sg_ rfl rfl rfl ?_
      refine FL.nilK ?_
      refine FC.cond_f rfl ?_
      refine FC.seq (FC.region ?_)
      refine mv_ rfl rfl rfl ?_
      refine mv_ rfl rfl rfl ?_
      refine mv_ rfl rfl rfl ?_
      refine FL.pur rfl rfl (p_indexA rfl rfl Try.underlying41 inf3_eq inf3_size (by omega) (by omega)) ?_
      refine FL.val _ _ rfl rfl (p_load rfl Try.underlying3 rfl hce) ?_
      refine FL.call rfl rfl (p_call Try.func49 rfl rfl rfl) (ks) ?_
      rintro e_ w_ ⟨rfl, rfl⟩
      refine ⟨_, rfl, ?_⟩
      refine FL.pur rfl rfl (p_eql rfl rfl (decide_eq_true c2)) ?_
      refine sg_ rfl rfl rfl ?_
      refine FL.nilK ?_
      refine FC.cond_t rfl ?_
      refine FC.region ?_
      refine mv_ rfl rfl rfl ?_
      refine mv_ rfl rfl rfl ?_
      refine FL.pur rfl rfl (p_indexA rfl rfl Try.underlying41 inf3_eq inf3_size (by omega) (by omega)) ?_
      refine FL.val _ _ rfl rfl (p_load rfl Try.underlying3 rfl hce) ?_
      refine sg_ rfl rfl rfl ?_
      refine FL.nil ?_
      refine blk_normal (blk_normal (thn_normal ?_))
      refine FC.region ?_
      refine mv_ rfl rfl rfl ?_
      refine FL.pur rfl rfl (p_add rfl rfl ((wr (by omega) (by omega)).trans (show (i : Int) + 1 = ((i + 1 : Nat) : Int) by omega))) ?_
      refine sg_ rfl rfl rfl ?_
      refine FL.nil ?_
      exact ⟨(i + 1, g c i), ⟨rfl, rfl, rfl, rfl, trivial⟩, ⟨rfl, hlt, hn⟩, by show c.length - (i + 1) < c.length - i; omega⟩
    · have c5 : o = g c i := c3.resolve_left c4
      refine FC.seq (FC.region ?_)
      refine mv_ rfl rfl rfl ?_
      refine mv_ rfl rfl rfl ?_
      refine mv_ rfl rfl rfl ?_
      refine FL.pur rfl rfl (p_indexA rfl rfl Try.underlying41 inf3_eq inf3_size (by omega) (by omega)) ?_
      refine FL.val _ _ rfl rfl (p_load rfl Try.underlying3 rfl hce) ?_
      refine FL.call rfl rfl (p_call Try.func49 rfl rfl rfl) (ks) ?_
      rintro e_ w_ ⟨rfl, rfl⟩
      refine ⟨_, rfl, ?_⟩
      refine FL.pur rfl rfl (p_eql rfl rfl (decide_eq_true c2)) ?_
      refine mv_ rfl rfl rfl ?_
      refine mv_ rfl rfl rfl ?_
      refine FL.pur rfl rfl (p_neq rfl rfl (show _ = !true by simp [c4])) ?_
      refine FL.pur rfl rfl (p_pick_t rfl rfl) ?_
      refine mv_ rfl rfl rfl ?_
      refine mv_ rfl rfl rfl ?_
      refine mv_ rfl rfl rfl ?_
      refine mv_ rfl rfl rfl ?_
      refine FL.pur rfl rfl (p_indexA rfl rfl Try.underlying41 inf3_eq inf3_size (by omega) (by omega)) ?_
      refine FL.val _ _ rfl rfl (p_load rfl Try.underlying3 rfl hce) ?_
      refine FL.pur rfl rfl (p_neq rfl rfl (show _ = !false by simp [c5])) ?_
      refine FL.pur rfl rfl (p_pick_t rfl rfl) ?_
      refine sg_ rfl rfl rfl ?_
      refine FL.nilK ?_
      refine FC.cond_f rfl ?_
      refine FC.seq (FC.region ?_)
      refine mv_ rfl rfl rfl ?_
      refine mv_ rfl rfl rfl ?_
      refine mv_ rfl rfl rfl ?_
      refine FL.pur rfl rfl (p_indexA rfl rfl Try.underlying41 inf3_eq inf3_size (by omega) (by omega)) ?_
      refine FL.val _ _ rfl rfl (p_load rfl Try.underlying3 rfl hce) ?_
      refine FL.call rfl rfl (p_call Try.func49 rfl rfl rfl) (ks) ?_
      rintro e_ w_ ⟨rfl, rfl⟩
      refine ⟨_, rfl, ?_⟩
      refine FL.pur rfl rfl (p_eql rfl rfl (decide_eq_true c2)) ?_
      refine sg_ rfl rfl rfl ?_
      refine FL.nilK ?_
      refine FC.cond_t rfl ?_
      refine FC.region ?_
      refine mv_ rfl rfl rfl ?_
      refine mv_ rfl rfl rfl ?_
      refine FL.pur rfl rfl (p_indexA rfl rfl Try.underlying41 inf3_eq inf3_size (by omega) (by omega)) ?_
      refine FL.val _ _ rfl rfl (p_load rfl Try.underlying3 rfl hce) ?_
      refine sg_ rfl rfl rfl ?_
      refine FL.nil ?_
      refine blk_normal (blk_normal (thn_normal ?_))
      refine FC.region ?_
      refine mv_ rfl rfl rfl ?_
      refine FL.pur rfl rfl (p_add rfl rfl ((wr (by omega) (by omega)).trans (show (i : Int) + 1 = ((i + 1 : Nat) : Int) by omega))) ?_
      refine sg_ rfl rfl rfl ?_
      refine FL.nil ?_
      exact ⟨(i + 1, g c i), ⟨rfl, rfl, rfl, rfl, trivial⟩, ⟨rfl, hlt, hn⟩, by show c.length - (i + 1) < c.length - i; omega⟩
  rintro o w2 ⟨rfl, hn⟩
  refine FC.seq (FC.region ?_)
  refine mv_ rfl rfl rfl ?_
  refine mv_ rfl rfl rfl ?_
  refine FL.pur rfl rfl (p_neq rfl rfl (show decide (o = 0) = !(o != 0) from (Bool.not_not _).symm)) ?_
  refine sg_ rfl rfl rfl ?_
  refine sg_ rfl rfl rfl ?_
  refine FL.nilK ?_
  refine FC.ret ?_
  repeat with_reducible first | refine thn_ret ?_ | refine blk_ret ?_ | refine nog_ret ?_
  exact ret2 Try.results51 rfl rfl ⟨by rw [hn], rfl⟩
end
end Go.Proofs.Ytcahhbcehnbdkaa.Sv

/- Memory while a clause is learned. -/
namespace Go.Proofs.Ytcahhbcehnbdkaa.Sv
open Go.RowKit Go.Proofs.YtcahhbcehnbdkaaW.PrintWords Go.Proofs.YtcahhbcehnbdkaaW.PrintLast Go.Proofs.Ytcahhbcehnbdkaa.Eng

theorem i23 : (Try.prog.info? 4).map (fun i => (i.zero, i.size, i.bytes)) = some (some (.bool false), 1, 1) := by kernel_rfl
/-- A block of truth values. -/
def BVec (w : World) (b : Nat) (vs : List Bool) : Prop := ∃ cells, w.heap[b]? = some (.cells cells 4 (0, 0)) ∧ cells.toList = vs.map Value.bool
section
variable {w w2 w3 : World} {B g0 b n bs : Nat} {vs seen : List Bool} {s : S} {V : Lay} {act c : List Int} {v : Value}
theorem BVec.at (h : BVec w b vs) (i : Nat) (hi : i < vs.length) : w.cell? ⟨b, i, none⟩ = some (.bool (vs.getD i false)) := by
  obtain ⟨cells, h1, h2⟩ := h
  rw [cell_of_row w b i _ _ _ h1, ← Array.getElem?_toList, h2]
  simp [hi]
theorem BVec.unfr (h : BVec w b vs) (i : Nat) : w.frozen? ⟨b, i, none⟩ = false := by
  obtain ⟨cells, h1, h2⟩ := h
  exact blk_frozen h1 i
theorem BVec.lt (h : BVec w b vs) : b < w.heap.size := by
  obtain ⟨cells, h1, h2⟩ := h
  exact (Array.getElem?_eq_some_iff.1 h1).1
theorem BVec.set (h : BVec w b vs) (i : Nat) (x : Bool) : BVec (w.setCell ⟨b, i, none⟩ (.bool x)) b (vs.set i x) := by
  obtain ⟨cells, h1, h2⟩ := h
  refine ⟨_, setCell_heap_self h1 i _, ?_⟩
  rw [Array.toList_setIfInBounds, h2]
  simp [List.map_set]
theorem BVec.fr {F : Nat → Prop} (h : BVec w b vs) (hf : Fr F w w2) (hn : ¬ F b) : BVec w2 b vs := by
  have hl := h.lt
  obtain ⟨cells, h1, h2⟩ := h
  exact ⟨cells, (hf.block b hl hn).trans h1, h2⟩
theorem bvec_made (w : World) (m : Nat) : BVec (w.alloc (.cells (madeCells #[.bool false] m) 4)) w.heap.size (List.replicate m false) :=
  ⟨_, heap_alloc_new w _, by rw [toList_madeCells_one]; simp⟩
theorem Srch.rowOf (h : Srch w B g0 s V) (r : Role) (l : List Int) (hC : C s V r = nums .i64 l) : Row w w.heap.size (V r) l := by
  have hlen : (C s V r).length = l.length := by rw [hC]; simp [nums]
  have ho := h.own r
  rcases ho.2 with ⟨e, hn⟩ | ⟨q, cap, cur, e, hb, hh, hc, hm, hs, ht⟩
  · rw [hlen] at hn
    exact ⟨none, 0, by rw [e, hn], fun i hi => by omega⟩
  · rw [hlen] at e
    refine ⟨some ⟨q, 0, none⟩, cap, e, fun i hi => ⟨_, rfl, (Array.getElem?_eq_some_iff.1 hh).1, ?_⟩⟩
    refine ho.cells (g := q) (by rw [e]; rfl) i _ ?_
    rw [hC]
    simp [nums, g, List.getElem?_eq_getElem hi]
theorem Srch.storeActive (h : Srch w B g0 s V) {i cap m : Nat} (x : Int) (hv : V .active = .slice (some ⟨b, 0, none⟩) m cap) (hi : i < m) :
    Srch (w.setCell ⟨b, i, none⟩ (.int .i64 x)) B g0 { s with active := s.active.set i x } V ∧ Goes g0 V w V (w.setCell ⟨b, i, none⟩ (.int .i64 x)) := by
  refine h.store (s' := { s with active := s.active.set i x }) .active hv hi _ (fun r' => ?_) rfl rfl rfl rfl
  cases r' <;> simp [C, nums, List.map_set]
/-- The memory of learn. -/
structure LW (w : World) (B g0 n : Nat) (V : Lay) (s : S) (bs : Nat) (w2 : World) (seen : List Bool) (act : List Int) (v : Value) (c : List Int) : Prop where
  sr : Srch w2 B g0 { s with active := act } V
  go : Goes g0 V w V w2
  bv : BVec w2 bs seen
  ow : w2.ownsRow (bs + 1) 3 1 v c.length (nums .i64 c)
  bw : w.heap.size ≤ bs
  al : act.length = n
theorem Goes.step {F : Nat → Prop} (h : Goes g0 V w V w2) (hf : Fr F w2 w3) (hF : ∀ k, F k → w.heap.size ≤ k) : Goes g0 V w V w3 :=
  ⟨h.fr.trans hf fun k hk => .inr (hF k hk), fun _ hk => .inl hk⟩
theorem LW.foot (h : LW w B g0 n V s bs w2 seen act v c) (hs : Srch w B g0 s V) {k : Nat} (hk : Sv.foot g0 V k) : k < w.heap.size := hs.lt hk
theorem LW.drew (h : LW w B g0 n V s bs w2 seen act v c) : LW w B g0 n V s bs w2.drew seen act v c :=
  ⟨h.sr.drew, h.go.drew, h.bv, ownsRow_same h.ow fun _ _ => rfl, h.bw, h.al⟩
theorem LW.see (h : LW w B g0 n V s bs w2 seen act v c) (hs : Srch w B g0 s V) (i : Nat) (x : Bool) : LW w B g0 n V s bs (w2.setCell ⟨bs, i, none⟩ (.bool x)) (seen.set i x) act v c := by
  have hf : Fr (fun k => k = bs) w2 (w2.setCell ⟨bs, i, none⟩ (.bool x)) := ⟨rfl, rfl, rfl, by rw [setCell_size]; exact Nat.le_refl _, fun k _ hk => Below.heap_setCell w2 _ _ k hk⟩
  refine ⟨h.sr.fr hf fun k hk hfk => ?_, h.go.step hf fun k hk => by rw [hk]; exact h.bw, h.bv.set i x, ownsRow_same h.ow fun k hk => hf.block k (h.ow.lt k hk).2 fun e => ?_, h.bw, h.al⟩
  · have := h.foot hs hfk; have := h.bw; omega
  · have := (h.ow.lt k hk).1; omega
theorem LW.tick (h : LW w B g0 n V s bs w2 seen act v c) (hs : Srch w B g0 s V) {cap m i : Nat} (x : Int) (hv : V .active = .slice (some ⟨b, 0, none⟩) m cap) (hi : i < m) : LW w B g0 n V s bs (w2.setCell ⟨b, i, none⟩ (.int .i64 x)) seen (act.set i x) v c := by
  obtain ⟨h1, h2⟩ := h.sr.storeActive x hv hi
  have hF : ∀ k, Sv.foot g0 V k → k < w.heap.size := fun k hk => h.foot hs hk
  have hbw := h.bw
  refine ⟨h1, h.go.trans h2, h.bv.fr h2.fr fun hf => by have := hF _ hf; omega, ownsRow_same h.ow fun k hk => h2.fr.block k (h.ow.lt k hk).2 fun hf => ?_, h.bw, by rw [List.length_set]; exact h.al⟩
  have := hF _ hf
  have := (h.ow.lt k hk).1
  omega
theorem LW.put (h : LW w B g0 n V s bs w2 seen act v c) (hs : Srch w B g0 s V) {v3 : Value} {c3 : List Int} (ho : w3.ownsRow (bs + 1) 3 1 v3 c3.length (nums .i64 c3)) (hf : Fr (fun k => v.ownBlock = some k) w2 w3) : LW w B g0 n V s bs w3 seen act v3 c3 := by
  have hbw := h.bw
  have hk1 : ∀ k, v.ownBlock = some k → bs + 1 ≤ k := fun k hk => (h.ow.lt k hk).1
  refine ⟨h.sr.fr hf fun k hk hfk => ?_, h.go.step hf fun k hk => by have := hk1 k hk; omega, h.bv.fr hf fun hk => by have := hk1 _ hk; omega, ho, h.bw, h.al⟩
  have := hk1 k hk
  have := h.foot hs hfk
  omega
theorem LW.first (h : LW w B g0 n V s bs w2 seen act v c) (hs : Srch w B g0 s V) (hc : 0 < c.length) (x : Int) : ∃ b cap, v = .slice (some ⟨b, 0, none⟩) c.length cap ∧ (∃ z, w2.cell? ⟨b, 0, none⟩ = some z) ∧ w2.frozen? ⟨b, 0, none⟩ = false ∧ LW w B g0 n V s bs (w2.setCell ⟨b, 0, none⟩ (.int .i64 x)) seen act v (c.set 0 x) := by
  have h' := h.ow
  rcases h.ow.2 with ⟨e, hn⟩ | ⟨q, cap, cur, e, hb, hh, hcc, hm, hs2, ht⟩
  · omega
  · have hcell := h'.cells (g := q) (by rw [e]; rfl) 0 (.int .i64 (g c 0)) (by simp [nums, g, List.getElem?_eq_getElem hc])
    refine ⟨q, cap, e, ⟨_, hcell⟩, blk_frozen hh 0, ?_⟩
    have h2 := ownsRow_set h' e 0 hc (.int .i64 x)
    have hf : Fr (fun k => v.ownBlock = some k) w2 (w2.setCell ⟨q, 0, none⟩ (.int .i64 x)) := ⟨rfl, rfl, rfl, by rw [setCell_size]; exact Nat.le_refl _, fun k _ hk => Below.heap_setCell w2 _ _ k fun e2 => hk (by rw [e, e2]; rfl)⟩
    exact h.put hs (c3 := c.set 0 x) (by simpa [nums, List.map_set] using h2) hf
theorem LW.own (h : LW w B g0 n V s bs w2 seen act v c) (hs : Srch w B g0 s V) : Own w2 B g0 V v c :=
  ⟨ownsRow_base h.ow (by have := hs.lt (k := g0) (.inl rfl); have := hs.gB; have := h.bw; omega), fun k hk hf => by
    have := h.foot hs hf; have := (h.ow.lt k hk).1; have := h.bw; omega⟩
end
end Go.Proofs.Ytcahhbcehnbdkaa.Sv
