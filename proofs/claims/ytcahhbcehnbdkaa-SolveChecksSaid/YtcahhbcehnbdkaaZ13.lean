/- Lemmas for: SolveChecks holds: for every input the law returns true, and each argument reads behind the call as it read before. No condition. -/
import Derived.Test.YtcahhbcehnbdkaaZ12
set_option linter.unusedVariables false
set_option linter.unusedSimpArgs false
/- Propagation as a law: a clause is put in. -/
namespace Go.Proofs.Ytcahhbcehnbdkaa.Sv
open Go.RowKit Go.Proofs.YtcahhbcehnbdkaaW.PrintWords

def cutL (s : S) (own : List Int) : List Int :=
  let o2 := if 1 < own.length ∧ ofv s (g own 1) = -1 then own.take 1 else own
  if o2.length = 1 ∧ ofv s (g o2 0) = -1 then [] else o2
def putS (n : Nat) (s : S) (own : List Int) : S × Bool :=
  if (addS s (cutL s own)).2 = false then ((addS s (cutL s own)).1, true)
  else ((prop (n + 1 - (addS s (cutL s own)).1.head.toNat) (addS s (cutL s own)).1).1, decide (0 ≤ (prop (n + 1 - (addS s (cutL s own)).1.head.toNat) (addS s (cutL s own)).1).2))

section
variable {Φ : List (List Int)} {s : S} {n T : Nat}
theorem Cov.mono {k k' : Nat} (h : Cov Φ s k) (hk : k ≤ k') : Cov Φ s k' := fun c hc => by
  rcases h c hc with h1 | ⟨l, h1, h2⟩ | h1
  · exact .inl h1
  · refine .inr (.inl ⟨l, h1, ?_⟩)
    have e : s.trail.take k = (s.trail.take k').take k := by rw [List.take_take, Nat.min_eq_left hk]
    rw [e] at h2
    exact List.mem_of_mem_take h2
  · exact .inr (.inr h1)
theorem Cov.snoc {k : Nat} (h : Cov Φ s k) {c : List Int} (hc : Taut c ∨ (∃ l ∈ c, l ∈ s.trail.take k) ∨ ∃ j, Two s j ∧ ∀ x, x ∈ c ↔ x ∈ cw s j) : Cov (Φ ++ [c]) s k := fun c' hc' => by
  rcases List.mem_append.1 hc' with h1 | h1
  · exact h c' h1
  · rw [List.mem_singleton.1 h1]; exact hc
theorem nz_snoc (h : ∀ c ∈ Φ, ∀ l ∈ c, l ≠ 0) {c : List Int} (hc : ∀ l ∈ c, Lit n l ∧ l ≠ 0) : ∀ c' ∈ Φ ++ [c], ∀ l ∈ c', l ≠ 0 := fun c' hc' => by
  rcases List.mem_append.1 hc' with h1 | h1
  · exact h c' h1
  · rw [List.mem_singleton.1 h1]; exact fun l hl => (hc l hl).2
theorem Still.skip (h : Still Φ s n T) {c : List Int} (hc : ∀ l ∈ c, Lit n l ∧ l ≠ 0) (hs : Taut c ∨ ∃ l ∈ c, ofv s l = 1) : Still (Φ ++ [c]) s n T :=
  { h with
    ok := h.ok.more fun c hc => List.mem_append.2 (.inl hc)
    cov := h.cov.snoc (hs.imp id fun ⟨l, h1, h2⟩ => .inl ⟨l, h1, by rw [List.take_length]; exact (h.ok.true_ (hc l h1).1 (hc l h1).2).1 h2⟩)
    nz := nz_snoc h.nz hc }
theorem settle (h : Ok Φ (fun _ => False) s n T []) (hp : Pro s s.head.toNat fun _ _ => False) (hc : Cov Φ s s.trail.length) (hz : ∀ c ∈ Φ, ∀ l ∈ c, l ≠ 0) (hm : s.marks = []) :
    ((prop (n + 1 - s.head.toNat) s).2 < 0 → Still Φ (prop (n + 1 - s.head.toNat) s).1 n T) ∧ (0 ≤ (prop (n + 1 - s.head.toNat) s).2 → Conf Φ fun _ => False) ∧ Ext s (prop (n + 1 - s.head.toNat) s).1 := by
  obtain ⟨p1, p2, p3⟩ := prop_ok (n + 1 - s.head.toNat) s (by have := h.good.hd1; have := h.good.hd0; have := h.good.tr; omega) h hp
  obtain ⟨more, em⟩ := p2.trail
  rcases p3 with ⟨e, p4, p5⟩ | ⟨e, p4⟩
  · refine ⟨fun _ => ⟨p1, p4, p5, ?_, hz, by rw [p2.marks, hm]⟩, fun e' => by omega, p2⟩
    refine (hc.ext p2.same ?_).mono (by rw [em, List.length_append]; omega)
    rw [em, List.take_left', List.take_length]; rfl
  · exact ⟨fun e' => by omega, fun _ => p4.conf p1, p2⟩

theorem put_law (h : Still Φ s n T) (hT : T + 2 < 1099511627774) (hl : s.clauses.length + 1 < 1099511627776) {c own : List Int} (hc : ∀ l ∈ c, Lit n l ∧ l ≠ 0) (hnd : own.Nodup) (hm : ∀ x, x ∈ own ↔ x ∈ c) (hsd : Sd (ofv s) own 0 own.length) (hno : ∀ l ∈ own, ofv s l ≠ 1) :
    ((putS n s own).2 = false → Still (Φ ++ [c]) (putS n s own).1 n (T + 2)) ∧ ((putS n s own).2 = true → Conf (Φ ++ [c]) fun _ => False) ∧ (putS n s own).1.clauses.length ≤ s.clauses.length + 1 ∧ ((addS s (cutL s own)).2 = true → Good (addS s (cutL s own)).1 n (T + 2)) := by
  have hlit : ∀ l ∈ own, Lit n l ∧ l ≠ 0 := fun l hl => hc l ((hm l).1 hl)
  have hval : ∀ l ∈ own, ofv s l = 0 ∨ ofv s l = -1 := fun l hl => by
    have := ofv_small h.ok.good.value h.ok.good.small (hlit l hl).1
    have := hno l hl
    omega
  have hokM : Ok (Φ ++ [c]) (fun _ => False) s n (T + 2) [] := (h.ok.more fun c hc => List.mem_append.2 (.inl hc)).room (by omega) hT
  have hokT : Ok (Φ ++ [c]) (fun _ => False) s n T [] := h.ok.more fun c hc => List.mem_append.2 (.inl hc)
  have hcin : c ∈ Φ ++ [c] := by simp
  have hnz := nz_snoc (n := n) h.nz hc
  have hdf : ∀ m, m ∈ c → ofv s m = -1 → D (Φ ++ [c]) (fun _ => False) (-m) := fun m hm' hv => hokM.sound _ ((hokM.false_ (hc m hm').1 (hc m hm').2).1 hv)
  have hhd : s.head.toNat = s.trail.length := by rw [h.head]; rfl
  have hmem0 : 0 < own.length → g own 0 ∈ own := fun h0 => rd_mem own 0 (by omega) (by omega)
  -- a conflict at once
  have empty : cutL s own = [] → (∀ m ∈ own, ofv s m = -1) → ((putS n s own).2 = false → Still (Φ ++ [c]) (putS n s own).1 n (T + 2)) ∧ ((putS n s own).2 = true → Conf (Φ ++ [c]) fun _ => False) ∧ (putS n s own).1.clauses.length ≤ s.clauses.length + 1 ∧ ((addS s (cutL s own)).2 = true → Good (addS s (cutL s own)).1 n (T + 2)) := fun e hall => by
    have e2 : putS n s own = (s, true) := by unfold putS; rw [e]; rfl
    rw [e2]
    exact ⟨fun e => (by cases e), fun _ => ⟨c, hcin, fun m hm' => hdf m hm' (hall m ((hm m).2 hm'))⟩, by show s.clauses.length ≤ _; omega, fun e3 => by rw [e] at e3; cases e3⟩
  -- one literal is left
  have single : ∀ l, cutL s own = [l] → l ∈ own → ofv s l = 0 → (∀ m ∈ own, m ≠ l → ofv s m = -1) → ((putS n s own).2 = false → Still (Φ ++ [c]) (putS n s own).1 n (T + 2)) ∧ ((putS n s own).2 = true → Conf (Φ ++ [c]) fun _ => False) ∧ (putS n s own).1.clauses.length ≤ s.clauses.length + 1 ∧ ((addS s (cutL s own)).2 = true → Good (addS s (cutL s own)).1 n (T + 2)) := fun l e hl0 hv hall => by
    obtain ⟨hL, hz⟩ := hlit l hl0
    have hd : D (Φ ++ [c]) (fun _ => False) l := .unit hcin ((hm l).1 hl0) fun m hm' hne => hdf m hm' (hall m ((hm m).2 hm') hne)
    have hone : ∀ x ∈ [l], Lit n x ∧ x ≠ 0 := fun x hx => by rw [List.mem_singleton.1 hx]; exact ⟨hL, hz⟩
    have k1 := (hokM.short hone hl (by simp) (by simp)).setS (r := (s.clauses.length : Int)) hL hz hv hd
    have kp : Pro (setS (withC s [l]) l s.clauses.length) (setS (withC s [l]) l s.clauses.length).head.toNat fun _ _ => False := by
      have h5 : Pro (withC s [l]) s.trail.length fun _ _ => False := h.pro.short (by simp)
      have h6 := h5.setS (s := withC s [l]) (l := l) (r := (s.clauses.length : Int)) (Nat.le_refl _)
      show Pro _ s.head.toNat _
      rw [hhd]
      exact h6
    have e1 : (addS s [l]) = (setS (withC s [l]) l s.clauses.length, true) := by
      have := ofv_set_self (s := withC s [l]) (r := (s.clauses.length : Int)) h.ok.good.value hL
      simp only [addS, if_pos hv, this]
      rfl
    have kc : Cov (Φ ++ [c]) (setS (withC s [l]) l s.clauses.length) (setS (withC s [l]) l s.clauses.length).trail.length := by
      refine Cov.snoc ?_ (.inr (.inl ⟨l, (hm l).1 hl0, ?_⟩))
      · have h5 : Cov Φ (withC s [l]) s.trail.length := cov_withC [l] h.cov
        refine Cov.mono (k := s.trail.length) (h5.ext (fun j => ⟨.rfl, fun x => .rfl⟩) ?_) ?_
        · show (s.trail ++ [l]).take s.trail.length = s.trail.take s.trail.length
          rw [List.take_left', List.take_length]; rfl
        · show s.trail.length ≤ (s.trail ++ [l]).length
          rw [List.length_append]; omega
      · show l ∈ (s.trail ++ [l]).take (s.trail ++ [l]).length
        rw [List.take_length]; simp
    obtain ⟨t1, t2, t3⟩ := settle k1 kp kc hnz h.marks
    have e2 : putS n s own = ((prop (n + 1 - (setS (withC s [l]) l s.clauses.length).head.toNat) (setS (withC s [l]) l s.clauses.length)).1, decide (0 ≤ (prop (n + 1 - (setS (withC s [l]) l s.clauses.length).head.toNat) (setS (withC s [l]) l s.clauses.length)).2)) := by
      unfold putS; rw [e, e1]; rfl
    rw [e2]
    refine ⟨fun e => t1 (by have := of_decide_eq_false e; omega), fun e => t2 (of_decide_eq_true e), ?_, fun _ => by rw [e, e1]; exact k1.good⟩
    show (prop _ _).1.clauses.length ≤ _
    rw [t3.nclauses]
    exact Nat.le_of_eq (len_withC [l])
  match own, hnd, hm, hsd, hno, hlit, hval, hmem0, empty, single with
  | [], _, _, _, _, _, _, _, empty, _ => exact empty rfl fun m hm => by cases hm
  | [l], _, _, _, _, _, hval, _, empty, single =>
    by_cases hv : ofv s l = -1
    · exact empty (by unfold cutL; simp [g, hv]) fun m hm => by rw [List.mem_singleton.1 hm]; exact hv
    · have h0 : ofv s l = 0 := (hval l (by simp)).resolve_right hv
      exact single l (by unfold cutL; simp [g, hv]) (by simp) h0 fun m hm hne => absurd (List.mem_singleton.1 hm) hne
  | l0 :: l1 :: r, hnd, hm, hsd, hno, hlit, hval, _, empty, single =>
    have hs1 : ∀ m ∈ l1 :: r, ofv s m ≤ ofv s l1 := fun m hm' => by
      obtain ⟨i, hi, rfl⟩ := List.mem_iff_getElem.1 hm'
      have := hsd.le (i := 1) (j := i + 1) (Nat.zero_le _) (by omega) (by simp at hi ⊢; omega)
      have e : g (l0 :: l1 :: r) (i + 1) = (l1 :: r)[i] := by
        simp only [g, List.getD_eq_getElem?_getD, List.getElem?_cons_succ]
        rw [List.getElem?_eq_getElem hi]; rfl
      rw [e] at this
      exact this
    by_cases hv1 : ofv s l1 = -1
    · have hall1 : ∀ m ∈ l1 :: r, ofv s m = -1 := fun m hm' => by
        have := hs1 m hm'
        rcases hval m (.tail _ hm') with h5 | h5
        · omega
        · exact h5
      by_cases hv0 : ofv s l0 = -1
      · exact empty (by unfold cutL; simp [g, hv0, hv1]) fun m hm' => by
          rcases List.mem_cons.1 hm' with rfl | h5
          · exact hv0
          · exact hall1 m h5
      · exact single l0 (by unfold cutL; simp [g, hv0, hv1]) (by simp) ((hval l0 (by simp)).resolve_right hv0) fun m hm' hne => by
          rcases List.mem_cons.1 hm' with h5 | h5
          · exact absurd h5 hne
          · exact hall1 m h5
    · have h1 : ofv s l1 = 0 := (hval l1 (by simp)).resolve_right hv1
      have h0 : ofv s l0 = 0 := by
        have := hsd.le (i := 0) (j := 1) (Nat.le_refl _) (by omega) (by simp)
        have e0 : g (l0 :: l1 :: r) 0 = l0 := rfl
        have e1 : g (l0 :: l1 :: r) 1 = l1 := rfl
        rw [e0, e1] at this
        rcases hval l0 (by simp) with h5 | h5
        · exact h5
        · omega
      have e : cutL s (l0 :: l1 :: r) = l0 :: l1 :: r := by unfold cutL; simp [g, hv1]
      have k1 := hokT.add2 (c0 := l0) (c1 := l1) (r := r) hlit hl hT hnd ⟨c, hcin, fun x => (hm x).symm⟩ (fun k hk => by cases hk)
      have nf : ∀ x, x = l0 ∨ x = l1 → -x ∉ s.trail := fun x hx hx2 => by
        have hx1 : x ∈ l0 :: l1 :: r := by rcases hx with rfl | rfl <;> simp
        have := (h.ok.false_ (hlit x hx1).1 (hlit x hx1).2).2 hx2
        rcases hx with rfl | rfl <;> omega
      have kp : Pro (add2 s l0 l1 r) (add2 s l0 l1 r).head.toNat fun _ _ => False := by
        have h5 := (h.pro.add2 l0 l1 r).weak (E' := fun _ _ => False) fun j x h6 => by
          rcases h6 with h6 | ⟨h6, h7⟩
          · exact h6
          · exact nf x h6 (List.mem_of_mem_take h7)
        show Pro _ s.head.toNat _
        rw [hhd]
        exact h5
      have kc : Cov (Φ ++ [c]) (add2 s l0 l1 r) (add2 s l0 l1 r).trail.length := by
        refine Cov.snoc (cov_withC (l0 :: l1 :: r) h.cov) (.inr (.inr ⟨s.clauses.length, (two_withC (l0 :: l1 :: r) _).2 (.inr ⟨rfl, by simp⟩), fun x => ?_⟩))
        rw [cw_withC, if_pos rfl]
        exact (hm x).symm
      obtain ⟨t1, t2, t3⟩ := settle k1 kp kc hnz h.marks
      have e2 : putS n s (l0 :: l1 :: r) = ((prop (n + 1 - (add2 s l0 l1 r).head.toNat) (add2 s l0 l1 r)).1, decide (0 ≤ (prop (n + 1 - (add2 s l0 l1 r).head.toNat) (add2 s l0 l1 r)).2)) := by
        unfold putS; rw [e]; rfl
      rw [e2]
      refine ⟨fun e => t1 (by have := of_decide_eq_false e; omega), fun e => t2 (of_decide_eq_true e), ?_, fun _ => by rw [e]; exact k1.good⟩
      show (prop _ _).1.clauses.length ≤ _
      rw [t3.nclauses]
      exact Nat.le_of_eq (len_withC _)

theorem cleanL_some : ∀ (r out own : List Int), out.Nodup → cleanL r out = some own → own.Nodup ∧ ∀ x, x ∈ own ↔ x ∈ out ∨ x ∈ r
  | [], out, own, hn, h => by
    unfold cleanL at h
    injection h with h
    subst h
    exact ⟨hn, fun x => by simp⟩
  | l :: r, out, own, hn, h => by
    unfold cleanL at h
    split at h
    · cases h
    · by_cases hl : l ∈ out
      · rw [if_pos hl] at h
        obtain ⟨h1, h2⟩ := cleanL_some r out own hn h
        refine ⟨h1, fun x => (h2 x).trans ?_⟩
        rw [List.mem_cons]
        exact ⟨fun h => h.imp id .inr, fun h => h.elim .inl fun h => h.elim (fun e => .inl (e ▸ hl)) .inr⟩
      · rw [if_neg hl] at h
        obtain ⟨h1, h2⟩ := cleanL_some r (out ++ [l]) own (by
          rw [List.nodup_append]
          exact ⟨hn, by simp, fun a ha b hb e => hl (by rw [List.mem_singleton] at hb; rw [← hb, ← e]; exact ha)⟩) h
        refine ⟨h1, fun x => (h2 x).trans ?_⟩
        rw [List.mem_cons, List.mem_append, List.mem_singleton, or_assoc]
theorem cleanL_none : ∀ (r out : List Int), cleanL r out = none → ∃ l ∈ r, -l ∈ out ∨ -l ∈ r
  | [], out, h => by cases h
  | l :: r, out, h => by
    unfold cleanL at h
    split at h
    · rename_i hl
      exact ⟨l, .head _, .inl hl⟩
    · obtain ⟨x, h1, h2⟩ := cleanL_none r _ h
      rcases h2 with h2 | h2
      · by_cases hl : l ∈ out
        · rw [if_pos hl] at h2; exact ⟨x, .tail _ h1, .inl h2⟩
        · rw [if_neg hl] at h2
          rcases List.mem_append.1 h2 with h3 | h3
          · exact ⟨x, .tail _ h1, .inl h3⟩
          · exact ⟨x, .tail _ h1, .inr (by rw [List.mem_singleton.1 h3]; exact .head _)⟩
      · exact ⟨x, .tail _ h1, .inr (.tail _ h2)⟩
theorem clean_none {c : List Int} (h : cleanL c [] = none) : Taut c := by
  obtain ⟨l, h1, h2⟩ := cleanL_none c [] h
  exact ⟨l, h1, h2.elim (fun e => by cases e) id⟩
theorem clean_some {c own : List Int} (h : cleanL c [] = some own) : own.Nodup ∧ ∀ x, x ∈ own ↔ x ∈ c := by
  obtain ⟨h1, h2⟩ := cleanL_some c [] own (by simp) h
  exact ⟨h1, fun x => (h2 x).trans (by simp)⟩
end
end Go.Proofs.Ytcahhbcehnbdkaa.Sv

/- Walk of Refutes' closure that puts a clause in. -/
namespace Go.Proofs.Ytcahhbcehnbdkaa.Sv
open Go.RowKit Go.Proofs.YtcahhbcehnbdkaaW.PrintWords Go.Proofs.YtcahhbcehnbdkaaW.PrintLast Go.Proofs.Ytcahhbcehnbdkaa.Eng

/-- The search, and the two cells that the closure holds. -/
structure Box (w : World) (B g0 : Nat) (s : S) (V : Lay) (fb sb : Nat) (f : Bool) : Prop where
  srch : Srch w B g0 s V
  fc : w.cell? ⟨fb, 0, none⟩ = some (.bool f)
  fu : w.frozen? ⟨fb, 0, none⟩ = false
  sc : w.cell? ⟨sb, 0, none⟩ = some (.pointer (some ⟨g0, 0, none⟩))
  fne : ¬ foot g0 V fb
  sne : ¬ foot g0 V sb
  fs : fb ≠ sb
section
variable {w w' : World} {B g0 fb sb n : Nat} {s : S} {V : Lay} {f : Bool}
theorem Box.fr (h : Box w B g0 s V fb sb f) {F : Nat → Prop} (hf : Fr F w w') (hF : ∀ k, F k → ¬ foot g0 V k ∧ k ≠ fb ∧ k ≠ sb) : Box w' B g0 s V fb sb f :=
  ⟨h.srch.fr hf fun k hk => (hF k hk).1, hf.cell h.fc fun e => (hF _ e).2.1 rfl, hf.unfr h.fc h.fu fun e => (hF _ e).2.1 rfl, hf.cell h.sc fun e => (hF _ e).2.2 rfl, h.fne, h.sne, h.fs⟩
theorem Box.drew (h : Box w B g0 s V fb sb f) : Box w.drew B g0 s V fb sb f := h.fr (F := fun _ => False) (Fr.refl _ _).drew fun _ h => h.elim
theorem Box.flt (h : Box w B g0 s V fb sb f) : fb < w.heap.size := World.block_lt_of_cell? w _ h.fc
theorem Box.slt (h : Box w B g0 s V fb sb f) : sb < w.heap.size := World.block_lt_of_cell? w _ h.sc
theorem Own.drew {v : Value} {c : List Int} (h : Own w B g0 V v c) : Own w.drew B g0 V v c := h.goes (Goes.refl g0 V w).drew

theorem sortNil' (w : World) (c : Nat) (A : Option Addr) {cs L : Nat} (hL : L = 0) : Calls Try.prog 34 #[.slice A L c, cmpV cs] w fun e w' => e = .returned (.tuple #[]) ∧ w = w' := by
  subst hL; exact sortNil_calls w c A
theorem own_take {A : Option Addr} {m c k : Nat} {e : TypeId} {xs : List Value} (h : w.ownsRow B e 1 (.slice A m c) m xs) (hk : k ≤ m) : w.ownsRow B e 1 (.slice A k c) k (xs.take k) := by
  obtain ⟨h1, h2⟩ := h
  refine ⟨by rw [List.length_take, h1]; omega, ?_⟩
  rcases h2 with ⟨h3, h4⟩ | ⟨q, cap, cur, h3, h4, h5, h6, h7, h8, h9⟩
  · injection h3 with a b e
    subst a; subst e
    exact .inl ⟨by rw [show k = 0 by omega], by omega⟩
  · injection h3 with a b e
    subst a; subst e
    exact .inr ⟨q, c, cur, rfl, h4, h5, by omega, h7, h8, by rw [← h9, List.take_take]; congr 1; omega⟩
theorem cleanL_len : ∀ (r out own : List Int), cleanL r out = some own → own.length ≤ out.length + r.length
  | [], out, own, h => by
    unfold cleanL at h
    injection h with h
    subst h
    simp
  | l :: r, out, own, h => by
    unfold cleanL at h
    split at h
    · cases h
    · have := cleanL_len r _ own h
      split at this <;> simp at this ⊢ <;> omega
/-- What a call of put may have done. -/
def PutR (n : Nat) (s : S) (f : Bool) (c : List Int) (s' : S) (f' : Bool) : Prop :=
  (f = true ∧ s' = s ∧ f' = true) ∨ (f = false ∧ s' = s ∧ f' = false ∧ (Taut c ∨ ∃ l ∈ c, ofv s l = 1)) ∨
    (f = false ∧ ∃ own : List Int, own.Nodup ∧ (∀ x, x ∈ own ↔ x ∈ c) ∧ Sd (ofv s) own 0 own.length ∧ (∀ l ∈ own, ofv s l ≠ 1) ∧ s' = (putS n s own).1 ∧ f' = (putS n s own).2)

set_option maxHeartbeats 2000000 in
theorem put_calls {Φ : List (List Int)} {T : Nat} {v : Value} {c : List Int} (hb : Box w B g0 s V fb sb f) (hB : B ≤ w.heap.size) (hr : Row w B v c) (hc : ∀ l ∈ c, Lit n l ∧ l ≠ 0) (hlen : c.length < 1099511627776) (hn : n < 1099511627776) (hS : f = false → Still Φ s n T)
    (hT : T + 2 < 1099511627774) (hl : s.clauses.length + 1 < 1099511627776) :
    Calls Try.prog 31 #[v, .pointer (some ⟨fb, 0, none⟩), .pointer (some ⟨sb, 0, none⟩)] w fun e w' => e = .returned (.tuple #[]) ∧ ∃ s' V' f', Box w' B g0 s' V' fb sb f' ∧ PutR n s f c s' f' ∧ Fr (fun k => foot g0 V k ∨ k = fb) w w' ∧ ∀ k, foot g0 V' k → foot g0 V k ∨ w.heap.size ≤ k := by
  refine calls_of_FC (N := 66) (vs := [v, .pointer (some ⟨fb, 0, none⟩), .pointer (some ⟨sb, 0, none⟩)]) Try.func31 rfl Try.ntmps31 (Nat.le_of_ble_eq_true rfl) ?_
  refine FC.cut (σ := Bool × List Int × Value) (fun x => [(1, .pointer (some ⟨fb, 0, none⟩)), (2, .pointer (some ⟨sb, 0, none⟩)), (4, x.2.2), (5, .bool x.1)]) (fun x w2 => Fr (fun _ => False) w w2 ∧ ((cleanL c [] = none ∧ x.1 = false) ∨ (cleanL c [] = some x.2.1 ∧ x.1 = true ∧ w2.ownsRow w.heap.size 3 1 x.2.2 x.2.1.length (nums .i64 x.2.1)))) ?_ ?_
  · refine FC.region ?_
    refine FL.pur rfl rfl (p_move rfl) ?_
    refine FL.call rfl rfl (p_call Try.func32 rfl rfl rfl) (clean_calls hr (fun l hl => (hc l hl).1) hn hlen hB) ?_
    rintro e_ w_ ⟨f1, ⟨hcl, rfl⟩ | ⟨own, v', hcl, rfl, ho⟩⟩
    · refine ⟨_, rfl, ?_⟩
      refine FL.pur rfl rfl (p_move rfl) ?_
      refine FL.pur rfl rfl (p_extract rfl rfl) ?_
      refine FL.pur rfl rfl (p_extract rfl rfl) ?_
      refine FL.pur rfl rfl (p_assign rfl) ?_
      refine FL.pur rfl rfl (p_assign rfl) ?_
      refine FL.nil ?_
      exact ⟨(false, [], .slice none 0 0), ⟨rfl, rfl, rfl, rfl, trivial⟩, f1, .inl ⟨hcl, rfl⟩⟩
    · refine ⟨_, rfl, ?_⟩
      refine FL.pur rfl rfl (p_move rfl) ?_
      refine FL.pur rfl rfl (p_extract rfl rfl) ?_
      refine FL.pur rfl rfl (p_extract rfl rfl) ?_
      refine FL.pur rfl rfl (p_assign rfl) ?_
      refine FL.pur rfl rfl (p_assign rfl) ?_
      refine FL.nil ?_
      exact ⟨(true, own, v'), ⟨rfl, rfl, rfl, rfl, trivial⟩, f1, .inr ⟨hcl, rfl, ho⟩⟩
  rintro ⟨ok, own, v'⟩ w1 ⟨f1, hcl⟩
  simp only at hcl ⊢
  have hb1 : Box w1 B g0 s V fb sb f := hb.fr f1 fun _ h => h.elim
  have stay : ∀ {w2 : World}, Fr (fun k => w.heap.size ≤ k) w w2 → Fr (fun k => foot g0 V k ∨ k = fb) w w2 := fun hf => hf.mono fun k hk => .inr hk
  refine FC.seq ?_
  rcases hcl with ⟨hcl, rfl⟩ | ⟨hcl, rfl, ho⟩
  · refine FC.seq (FC.region ?_)
    refine FL.pur rfl rfl (p_move rfl) ?_
    refine FL.pur rfl rfl (p_not rfl) ?_
    refine FL.pur rfl rfl (p_move rfl) ?_
    refine FL.off rfl rfl ?_
    refine FL.pur rfl rfl (p_pick_t rfl rfl) ?_
    refine FL.nilK ?_
    refine FC.cond_t rfl ?_
    refine FC.ret ?_
    repeat (first | with_reducible refine thn_ret ?_ | with_reducible refine blk_ret ?_ | with_reducible refine nog_ret ?_)
    refine ret0 Try.results31 ⟨rfl, s, V, f, hb1, ?_, f1.mono fun _ h => h.elim, fun k hk => .inl hk⟩
    cases f with
    | true => exact .inl ⟨rfl, rfl, rfl⟩
    | false => exact .inr (.inl ⟨rfl, rfl, rfl, .inl (clean_none hcl)⟩)
  refine FC.seq (FC.region ?_)
  refine FL.pur rfl rfl (p_move rfl) ?_
  refine FL.pur rfl rfl (p_not rfl) ?_
  refine FL.pur rfl rfl (p_move rfl) ?_
  refine FL.val _ _ rfl rfl (p_load rfl Try.underlying4 rfl hb1.fc) ?_
  refine FL.pur rfl rfl (p_pick_f rfl rfl) ?_
  refine FL.nilK ?_
  refine FC.cond f rfl (fun hcc => ?_) (fun hcc => FC.skip (thn_normal ?_))
  · have hq : True := trivial
    refine FC.ret ?_
    repeat (first | with_reducible refine thn_ret ?_ | with_reducible refine blk_ret ?_ | with_reducible refine nog_ret ?_)
    exact ret0 Try.results31 ⟨rfl, s, V, f, hb1, .inl ⟨hcc, rfl, hcc⟩, f1.mono fun _ h => h.elim, fun k hk => .inl hk⟩
  subst hcc
  have hSt := hS rfl
  have hg := hSt.ok.good
  obtain ⟨hnd, hmem⟩ := clean_some hcl
  have hlit : ∀ l ∈ own, Lit n l ∧ l ≠ 0 := fun l hl => hc l ((hmem l).1 hl)
  have hw1 : ∀ k, w.heap.size ≤ k → ¬ foot g0 V k ∧ k ≠ fb ∧ k ≠ sb := fun k hk => ⟨fun hf => by have := hb.srch.lt hf; omega, by have := hb.flt; omega, by have := hb.slt; omega⟩
  have ho1 : Own w1 B g0 V v' own := ⟨ownsRow_base ho hB, fun k hk => (hw1 k (ho.lt k hk).1).1⟩
  have hvk : ∀ k, v'.ownBlock = some k → w.heap.size ≤ k := fun k hk => (ho.lt k hk).1
  obtain ⟨A, cap, rfl, hcap, hcm⟩ := ho1.slice
  have olen : own.length < 1099511627776 := by
    have := cleanL_len c [] own hcl
    simp only [List.length_nil] at this
    omega
  refine FC.cut (σ := Unit) (fun _ => [(1, .pointer (some ⟨fb, 0, none⟩)), (2, .pointer (some ⟨sb, 0, none⟩)), (4, .slice A own.length cap)]) (fun _ w2 => Box w2 B g0 s V fb sb false ∧ Own w2 B g0 V (.slice A own.length cap) own ∧ Fr (fun k => w.heap.size ≤ k) w w2 ∧ ∀ q, q < own.length → ofv s (g own q) ≠ 1) ?_ ?_
  · refine FC.seq (FC.region ?_)
    refine FL.pur rfl rfl (p_move rfl) ?_
    refine FL.pur rfl rfl (p_len rfl Try.underlying41) ?_
    refine FL.pur rfl rfl (p_move rfl) ?_
    refine FL.nilK ?_
    refine FC.block ?_
    refine FC.loop (σ := Nat) (fun x => [(1, .pointer (some ⟨fb, 0, none⟩)), (2, .pointer (some ⟨sb, 0, none⟩)), (4, .slice A own.length cap), (17, .slice A own.length cap), (18, .int .i64 own.length), (19, .int .i64 x)]) (fun x w2 => x ≤ own.length ∧ Box w2 B g0 s V fb sb false ∧ Own w2 B g0 V (.slice A own.length cap) own ∧ Fr (fun k => w.heap.size ≤ k) w w2 ∧ ∀ q, q < x → ofv s (g own q) ≠ 1)
      (fun x => own.length - x) 0 ⟨Nat.zero_le _, hb1, ho1, f1.mono (fun _ h => h.elim), fun q hq => absurd hq (Nat.not_lt_zero q)⟩ ⟨rfl, rfl, rfl, rfl, rfl, rfl, trivial⟩ ?_
    rintro i w2 ⟨hi, h2, o2, f2, hno⟩
    refine FC.seq (FC.region ?_)
    refine FL.pur rfl rfl (p_lss rfl rfl rfl) ?_
    refine FL.nilK ?_
    refine FC.seq ?_
    refine FC.cond (decide ((i : Int) < (own.length : Int))) rfl (fun hcc => FC.skip (thn_normal ?_)) (fun hcc => FC.exit ?_)
    rotate_left
    · have hge : ¬ (i : Int) < (own.length : Int) := of_decide_eq_false hcc
      exact thn_exit (thn_exit (blk_exit ⟨(), ⟨rfl, rfl, rfl, trivial⟩, h2, o2, f2, fun q hq => hno q (by omega)⟩))
    have hlt : i < own.length := by have := of_decide_eq_true hcc; omega
    obtain ⟨bd, cap', e, _, _⟩ := o2.form (by omega)
    injection e with e _ _
    subst e
    obtain ⟨hL, hz⟩ := hlit (g own i) (rd_mem own i (by omega) (by omega))
    obtain ⟨hL1, hL2⟩ := hL
    refine FC.seq ?_
    refine FC.block ?_
    refine FC.seq (FC.region ?_)
    refine FL.pur rfl rfl (p_move rfl) ?_
    refine FL.pur rfl rfl (p_assign rfl) ?_
    refine FL.nilK ?_
    have h3 := h2.drew
    have o3 := o2.drew
    have hS3 := And.intro h3.srch (And.intro h3.sc (o3.cell rfl (i : Int) (by omega) (by omega)))
    have hof : ∀ W, (Srch W B g0 s V ∧ W.cell? ⟨sb, 0, none⟩ = some (.pointer (some ⟨g0, 0, none⟩)) ∧ W.cell? ⟨bd, (i : Int).toNat, none⟩ = some (.int .i64 (rd own (i : Int)))) → Calls Try.prog 33 #[.pointer (some ⟨g0, 0, none⟩), .int .i64 (rd own (i : Int))] W fun e w' => e = .returned (.int .i8 (ofv s (g own i))) ∧ W = w' := fun W hW =>
      of_calls hW.1 (g own i) (by rw [hg.value]; exact hL1) (by rw [hg.value]; exact hL2) hg.small
    refine FC.seq (FC.draw (fun w => Srch w B g0 s V ∧ w.cell? ⟨sb, 0, none⟩ = some (.pointer (some ⟨g0, 0, none⟩)) ∧ w.cell? ⟨bd, (i : Int).toNat, none⟩ = some (.int .i64 (rd own (i : Int)))) [] #[false, false, false, false, false, false, false] (by kernel_rfl) rfl rfl hS3 ?_)
    refine FA.pur (i := 1) #[false, true, false, false, false, false, false] rfl (by kernel_rfl) rfl rfl (p_move rfl) ?_
    refine FA.pur (i := 2) #[false, true, true, false, false, false, false] rfl (by kernel_rfl) rfl rfl (p_move rfl) ?_
    refine FA.pur (i := 3) #[false, true, true, true, false, false, false] rfl (by kernel_rfl) rfl rfl (idx41 rfl rfl (by omega) (by omega)) ?_
    refine FA.lod (i := 0) #[true, true, true, true, false, false, false] rfl (by kernel_rfl) rfl rfl hS3 (fun _ hs => p_load rfl Try.underlying49 rfl hs.2.1) ?_
    refine FA.lod (i := 4) #[true, true, true, true, true, false, false] rfl (by kernel_rfl) rfl rfl hS3 (fun _ hs => p_load rfl Try.underlying3 rfl hs.2.2) ?_
    refine FA.tell (i := 5) #[true, true, true, true, true, true, false] rfl (by kernel_rfl) rfl rfl hS3 (fun _ _ => p_call Try.func33 rfl rfl rfl) (fun _ hs => hof _ hs) ?_
    refine FA.pur (i := 6) #[true, true, true, true, true, true, true] rfl (by kernel_rfl) rfl rfl (p_eql rfl rfl rfl) ?_
    refine FA.doneK (by kernel_rfl) ?_
    have f3 : Fr (fun k => w.heap.size ≤ k) w w2.drew := f2.drew
    refine FC.cond (decide (ofv s (g own i) = 1)) rfl (fun hcc => ?_) (fun hcc => FC.skip ?_)
    · have h1 := of_decide_eq_true hcc
      refine FC.ret ?_
      repeat (first | with_reducible refine thn_ret ?_ | with_reducible refine blk_ret ?_ | with_reducible refine nog_ret ?_)
      exact ret0 Try.results31 ⟨rfl, s, V, false, h3, .inr (.inl ⟨rfl, rfl, rfl, .inr ⟨g own i, (hmem _).1 (rd_mem own i (by omega) (by omega)), h1⟩⟩), stay f3, fun k hk => .inl hk⟩
    · have h1 := of_decide_eq_false hcc
      refine blk_normal (thn_normal ?_)
      refine FC.region ?_
      refine FL.pur rfl rfl (p_add rfl rfl ((wr (by omega) (by omega)).trans (show (i : Int) + 1 = ((i + 1 : Nat) : Int) by omega))) ?_
      refine FL.pur rfl rfl (p_move rfl) ?_
      refine FL.nil ?_
      refine ⟨i + 1, ⟨rfl, rfl, rfl, rfl, rfl, rfl, trivial⟩, ⟨hlt, h3, o3, f3, fun q hq => ?_⟩, by show own.length - (i + 1) < own.length - i; omega⟩
      by_cases e : q = i
      · rw [e]; exact h1
      · exact hno q (by omega)
  rintro - w2 ⟨h2, o2, f2, hnoT⟩
  refine FC.cut (σ := List Int) (fun _ => [(1, .pointer (some ⟨fb, 0, none⟩)), (2, .pointer (some ⟨sb, 0, none⟩)), (4, .slice A own.length cap)]) (fun d w2 => Box w2 B g0 s V fb sb false ∧ Own w2 B g0 V (.slice A own.length cap) d ∧ Fr (fun k => w.heap.size ≤ k) w w2 ∧ d.Perm own ∧ Sd (ofv s) d 0 d.length) ?_ ?_
  · rcases Nat.eq_zero_or_pos own.length with h0 | h0
    · refine FC.region ?_
      refine FL.pur rfl rfl (p_move rfl) ?_
      refine FL.pur rfl rfl (p_func rfl) ?_
      refine FL.call rfl rfl (p_call Try.func34 rfl rfl rfl) (sortNil' (cs := sb) _ cap A h0) ?_
      rintro e_ w_ ⟨rfl, rfl⟩
      refine ⟨_, rfl, ?_⟩
      refine FL.nil ?_
      exact ⟨own, ⟨rfl, rfl, rfl, trivial⟩, h2, o2, f2, .refl _, by rw [h0]; exact fun i j _ _ h => absurd h (Nat.not_lt_zero j)⟩
    · obtain ⟨bd, cap', e, _, _⟩ := o2.form h0
      injection e with e _ _
      subst e
      have hon : On w2 B g0 s V sb bd n cap own.length own := ⟨⟨h2.srch, h2.sc, fun e => (hw1 bd (hvk bd rfl)).2.2 e.symm, o2.apart bd rfl, hg.value, hg.small⟩, ⟨o2.own⟩, rfl, fun l hl => (hlit l hl).1⟩
      refine FC.region ?_
      refine FL.pur rfl rfl (p_move rfl) ?_
      refine FL.pur rfl rfl (p_func rfl) ?_
      refine FL.call rfl rfl (p_call Try.func34 rfl rfl rfl) (sort_calls (by omega) hn hon) ?_
      rintro e_ w_ ⟨rfl, d, m1, s1, h3, f3⟩
      refine ⟨_, rfl, ?_⟩
      refine FL.nil ?_
      have hlen2 := m1.len
      refine ⟨d, ⟨rfl, rfl, rfl, trivial⟩, h2.fr f3 fun k hk => by rw [show k = bd from hk]; exact hw1 bd (hvk bd rfl), ⟨?_, o2.apart⟩, f2.trans f3 fun k hk => .inl (by rw [show k = bd from hk]; exact hvk bd rfl), m1.perm, by rw [hlen2]; exact s1⟩
      have := h3.row.own
      rw [hlen2] at this ⊢
      exact this
  rintro d w3 ⟨h3, o3, f3, hperm, hsd⟩
  have dlen : d.length = own.length := hperm.length_eq
  have hlitd : ∀ l ∈ d, Lit n l ∧ l ≠ 0 := fun l hl => hlit l (hperm.mem_iff.1 hl)
  obtain ⟨oL, hoL⟩ : ∃ oL, oL = if 1 < d.length ∧ ofv s (g d 1) = -1 then d.take 1 else d := ⟨_, rfl⟩
  have hofd : ∀ W, Srch W B g0 s V → ∀ l ∈ d, Calls Try.prog 33 #[.pointer (some ⟨g0, 0, none⟩), .int .i64 l] W fun e w' => e = .returned (.int .i8 (ofv s l)) ∧ W = w' := fun W hW l hl =>
    of_calls hW l (by rw [hg.value]; exact (hlitd l hl).1.1) (by rw [hg.value]; exact (hlitd l hl).1.2) hg.small
  refine FC.cut (σ := Unit) (fun _ => [(1, .pointer (some ⟨fb, 0, none⟩)), (2, .pointer (some ⟨sb, 0, none⟩)), (4, .slice A oL.length cap)]) (fun _ w2 => Box w2 B g0 s V fb sb false ∧ Own w2 B g0 V (.slice A oL.length cap) oL ∧ Fr (fun k => w.heap.size ≤ k) w w2) ?_ ?_
  · by_cases c1 : 1 < own.length
    · obtain ⟨bd, cap', e, _, _⟩ := o3.form (by omega)
      injection e with e _ _
      subst e
      have h4 := h3.drew
      have o4 := o3.drew
      have hS3 := And.intro h4.srch (And.intro h4.sc (o4.cell rfl (1 : Int) (by omega) (by omega)))
      refine FC.seq (FC.draw (fun w => Srch w B g0 s V ∧ w.cell? ⟨sb, 0, none⟩ = some (.pointer (some ⟨g0, 0, none⟩)) ∧ w.cell? ⟨bd, (1 : Int).toNat, none⟩ = some (.int .i64 (rd d (1 : Int)))) [] #[false, false, false, false, false, false, false, false, false, false, false] (by kernel_rfl) rfl rfl hS3 ?_)
      refine FA.pur (i := 0) #[true, false, false, false, false, false, false, false, false, false, false] rfl (by kernel_rfl) rfl rfl (p_move rfl) ?_
      refine FA.pur (i := 1) #[true, true, false, false, false, false, false, false, false, false, false] rfl (by kernel_rfl) rfl rfl (p_len rfl Try.underlying41) ?_
      refine FA.pur (i := 2) #[true, true, true, false, false, false, false, false, false, false, false] rfl (by kernel_rfl) rfl rfl (p_gtr rfl rfl (decide_eq_true (by omega))) ?_
      refine FA.pur (i := 3) #[true, true, true, true, false, false, false, false, false, false, false] rfl (by kernel_rfl) rfl rfl (p_move rfl) ?_
      refine FA.pur (i := 5) #[true, true, true, true, false, true, false, false, false, false, false] rfl (by kernel_rfl) rfl rfl (p_move rfl) ?_
      refine FA.pur (i := 6) #[true, true, true, true, false, true, true, false, false, false, false] rfl (by kernel_rfl) rfl rfl (idx41 rfl rfl (by omega) (by omega)) ?_
      refine FA.lod (i := 4) #[true, true, true, true, true, true, true, false, false, false, false] rfl (by kernel_rfl) rfl rfl hS3 (fun _ hs => p_load rfl Try.underlying49 rfl hs.2.1) ?_
      refine FA.lod (i := 7) #[true, true, true, true, true, true, true, true, false, false, false] rfl (by kernel_rfl) rfl rfl hS3 (fun _ hs => p_load rfl Try.underlying3 rfl hs.2.2) ?_
      refine FA.tell (i := 8) #[true, true, true, true, true, true, true, true, true, false, false] rfl (by kernel_rfl) rfl rfl hS3 (fun _ _ => p_call Try.func33 rfl rfl rfl) (fun _ hs => hofd _ hs.1 (rd d (1 : Int)) (rd_mem d 1 (by omega) (by omega))) ?_
      refine FA.pur (i := 9) #[true, true, true, true, true, true, true, true, true, true, false] rfl (by kernel_rfl) rfl rfl (p_eql rfl rfl rfl) ?_
      refine FA.pur (i := 10) #[true, true, true, true, true, true, true, true, true, true, true] rfl (by kernel_rfl) rfl rfl (p_pick_t rfl rfl) ?_
      refine FA.doneK (by kernel_rfl) ?_
      refine FC.cond (decide (ofv s (rd d (1 : Int)) = -1)) rfl (fun hcc => ?_) (fun hcc => FC.skip ?_)
      · rw [if_pos ⟨by omega, of_decide_eq_true hcc⟩] at hoL
        have e1 : oL.length = 1 := by rw [hoL, List.length_take]; omega
        refine FC.region ?_
        refine FL.pur rfl rfl (p_move rfl) ?_
        refine FL.pur rfl rfl (upto41 rfl rfl (by omega) (by omega)) ?_
        refine FL.pur rfl rfl (p_assign rfl) ?_
        refine FL.nil ?_
        refine ⟨(), ⟨rfl, rfl, by rw [e1]; rfl, trivial⟩, h4, ⟨?_, fun k hk => o4.apart k hk⟩, f3.drew⟩
        have o4' := o4.own
        rw [dlen] at o4'
        have := own_take o4' (k := 1) (by omega)
        have e5 : nums .i64 oL = (nums .i64 d).take 1 := by rw [hoL]; simp [nums, List.map_take]
        rw [e1, e5]
        exact this
      · rw [if_neg (fun e => of_decide_eq_false hcc e.2)] at hoL
        subst hoL
        refine ⟨(), ⟨rfl, rfl, by rw [dlen]; rfl, trivial⟩, h4, by rw [dlen]; exact o4, f3.drew⟩
    · rw [if_neg (fun e => c1 (by omega))] at hoL
      subst hoL
      have h4 := h3.drew
      have o4 := o3.drew
      refine FC.seq (FC.draw (fun _ => True) [] #[false, false, false, false, false, false, false, false, false, false, false] (by kernel_rfl) rfl rfl trivial ?_)
      refine FA.pur (i := 0) #[true, false, false, false, false, false, false, false, false, false, false] rfl (by kernel_rfl) rfl rfl (p_move rfl) ?_
      refine FA.pur (i := 1) #[true, true, false, false, false, false, false, false, false, false, false] rfl (by kernel_rfl) rfl rfl (p_len rfl Try.underlying41) ?_
      refine FA.pur (i := 2) #[true, true, true, false, false, false, false, false, false, false, false] rfl (by kernel_rfl) rfl rfl (p_gtr rfl rfl (decide_eq_false (by omega))) ?_
      refine FA.pur (i := 3) #[true, true, true, true, false, false, false, false, false, false, false] rfl (by kernel_rfl) rfl rfl (p_move rfl) ?_
      refine FA.off (i := 4) #[true, true, true, true, true, false, false, false, false, false, false] rfl (by kernel_rfl) rfl rfl ?_
      refine FA.off (i := 5) #[true, true, true, true, true, true, false, false, false, false, false] rfl (by kernel_rfl) rfl rfl ?_
      refine FA.off (i := 6) #[true, true, true, true, true, true, true, false, false, false, false] rfl (by kernel_rfl) rfl rfl ?_
      refine FA.off (i := 7) #[true, true, true, true, true, true, true, true, false, false, false] rfl (by kernel_rfl) rfl rfl ?_
      refine FA.off (i := 8) #[true, true, true, true, true, true, true, true, true, false, false] rfl (by kernel_rfl) rfl rfl ?_
      refine FA.off (i := 9) #[true, true, true, true, true, true, true, true, true, true, false] rfl (by kernel_rfl) rfl rfl ?_
      refine FA.pur (i := 10) #[true, true, true, true, true, true, true, true, true, true, true] rfl (by kernel_rfl) rfl rfl (p_pick_f rfl rfl) ?_
      refine FA.doneK (by kernel_rfl) ?_
      refine FC.cond_f rfl (FC.skip ?_)
      exact ⟨(), ⟨rfl, rfl, by rw [dlen]; rfl, trivial⟩, h4, by rw [dlen]; exact o4, f3.drew⟩
  rintro - w4 ⟨h4, o4, f4⟩
  have hsub : ∀ l ∈ oL, l ∈ d := fun l hl => by
    rw [hoL] at hl
    split at hl
    · exact List.mem_of_mem_take hl
    · exact hl
  have hcut : cutL s d = if oL.length = 1 ∧ ofv s (g oL 0) = -1 then [] else oL := by rw [hoL]; rfl
  refine FC.cut (σ := Value) (fun x => [(1, .pointer (some ⟨fb, 0, none⟩)), (2, .pointer (some ⟨sb, 0, none⟩)), (4, x)]) (fun x w2 => Box w2 B g0 s V fb sb false ∧ Own w2 B g0 V x (cutL s d) ∧ Fr (fun k => w.heap.size ≤ k) w w2 ∧ ∀ k, x.ownBlock = some k → w.heap.size ≤ k) ?_ ?_
  · have hvk2 : ∀ k, (Value.slice A oL.length cap).ownBlock = some k → w.heap.size ≤ k := fun k hk => hvk k (by cases A <;> exact hk)
    by_cases c1 : oL.length = 1
    · obtain ⟨bd, cap', e, _, _⟩ := o4.form (by omega)
      injection e with e _ _
      subst e
      have h5 := h4.drew
      have o5 := o4.drew
      have hS3 := And.intro h5.srch (And.intro h5.sc (o5.cell rfl (0 : Int) (by omega) (by omega)))
      refine FC.seq (FC.draw (fun w => Srch w B g0 s V ∧ w.cell? ⟨sb, 0, none⟩ = some (.pointer (some ⟨g0, 0, none⟩)) ∧ w.cell? ⟨bd, (0 : Int).toNat, none⟩ = some (.int .i64 (rd oL (0 : Int)))) [] #[false, false, false, false, false, false, false, false, false, false, false] (by kernel_rfl) rfl rfl hS3 ?_)
      refine FA.pur (i := 0) #[true, false, false, false, false, false, false, false, false, false, false] rfl (by kernel_rfl) rfl rfl (p_move rfl) ?_
      refine FA.pur (i := 1) #[true, true, false, false, false, false, false, false, false, false, false] rfl (by kernel_rfl) rfl rfl (p_len rfl Try.underlying41) ?_
      refine FA.pur (i := 2) #[true, true, true, false, false, false, false, false, false, false, false] rfl (by kernel_rfl) rfl rfl (p_eql rfl rfl (decide_eq_true (by omega))) ?_
      refine FA.pur (i := 3) #[true, true, true, true, false, false, false, false, false, false, false] rfl (by kernel_rfl) rfl rfl (p_move rfl) ?_
      refine FA.pur (i := 5) #[true, true, true, true, false, true, false, false, false, false, false] rfl (by kernel_rfl) rfl rfl (p_move rfl) ?_
      refine FA.pur (i := 6) #[true, true, true, true, false, true, true, false, false, false, false] rfl (by kernel_rfl) rfl rfl (idx41 rfl rfl (by omega) (by omega)) ?_
      refine FA.lod (i := 4) #[true, true, true, true, true, true, true, false, false, false, false] rfl (by kernel_rfl) rfl rfl hS3 (fun _ hs => p_load rfl Try.underlying49 rfl hs.2.1) ?_
      refine FA.lod (i := 7) #[true, true, true, true, true, true, true, true, false, false, false] rfl (by kernel_rfl) rfl rfl hS3 (fun _ hs => p_load rfl Try.underlying3 rfl hs.2.2) ?_
      refine FA.tell (i := 8) #[true, true, true, true, true, true, true, true, true, false, false] rfl (by kernel_rfl) rfl rfl hS3 (fun _ _ => p_call Try.func33 rfl rfl rfl) (fun _ hs => hofd _ hs.1 (rd oL (0 : Int)) (hsub _ (rd_mem oL 0 (by omega) (by omega)))) ?_
      refine FA.pur (i := 9) #[true, true, true, true, true, true, true, true, true, true, false] rfl (by kernel_rfl) rfl rfl (p_eql rfl rfl rfl) ?_
      refine FA.pur (i := 10) #[true, true, true, true, true, true, true, true, true, true, true] rfl (by kernel_rfl) rfl rfl (p_pick_t rfl rfl) ?_
      refine FA.doneK (by kernel_rfl) ?_
      refine FC.cond (decide (ofv s (rd oL (0 : Int)) = -1)) rfl (fun hcc => ?_) (fun hcc => FC.skip ?_)
      · rw [if_pos ⟨c1, of_decide_eq_true hcc⟩] at hcut
        refine FC.region ?_
        refine FL.pur rfl rfl (p_assign rfl) ?_
        refine FL.nil ?_
        exact ⟨.slice none 0 0, ⟨rfl, rfl, rfl, trivial⟩, h5, by rw [hcut]; exact ⟨World.ownsRow_nil _ _ _ _, fun k hk => by cases hk⟩, f4.drew, fun k hk => by cases hk⟩
      · rw [if_neg (fun e => of_decide_eq_false hcc e.2)] at hcut
        exact ⟨_, ⟨rfl, rfl, rfl, trivial⟩, h5, by rw [hcut]; exact o5, f4.drew, hvk2⟩
    · rw [if_neg (fun e => c1 e.1)] at hcut
      have h5 := h4.drew
      have o5 := o4.drew
      refine FC.seq (FC.draw (fun _ => True) [] #[false, false, false, false, false, false, false, false, false, false, false] (by kernel_rfl) rfl rfl trivial ?_)
      refine FA.pur (i := 0) #[true, false, false, false, false, false, false, false, false, false, false] rfl (by kernel_rfl) rfl rfl (p_move rfl) ?_
      refine FA.pur (i := 1) #[true, true, false, false, false, false, false, false, false, false, false] rfl (by kernel_rfl) rfl rfl (p_len rfl Try.underlying41) ?_
      refine FA.pur (i := 2) #[true, true, true, false, false, false, false, false, false, false, false] rfl (by kernel_rfl) rfl rfl (p_eql rfl rfl (decide_eq_false (by omega))) ?_
      refine FA.pur (i := 3) #[true, true, true, true, false, false, false, false, false, false, false] rfl (by kernel_rfl) rfl rfl (p_move rfl) ?_
      refine FA.off (i := 4) #[true, true, true, true, true, false, false, false, false, false, false] rfl (by kernel_rfl) rfl rfl ?_
      refine FA.off (i := 5) #[true, true, true, true, true, true, false, false, false, false, false] rfl (by kernel_rfl) rfl rfl ?_
      refine FA.off (i := 6) #[true, true, true, true, true, true, true, false, false, false, false] rfl (by kernel_rfl) rfl rfl ?_
      refine FA.off (i := 7) #[true, true, true, true, true, true, true, true, false, false, false] rfl (by kernel_rfl) rfl rfl ?_
      refine FA.off (i := 8) #[true, true, true, true, true, true, true, true, true, false, false] rfl (by kernel_rfl) rfl rfl ?_
      refine FA.off (i := 9) #[true, true, true, true, true, true, true, true, true, true, false] rfl (by kernel_rfl) rfl rfl ?_
      refine FA.pur (i := 10) #[true, true, true, true, true, true, true, true, true, true, true] rfl (by kernel_rfl) rfl rfl (p_pick_f rfl rfl) ?_
      refine FA.doneK (by kernel_rfl) ?_
      refine FC.cond_f rfl (FC.skip ?_)
      exact ⟨_, ⟨rfl, rfl, rfl, trivial⟩, h5, by rw [hcut]; exact o5, f4.drew, hvk2⟩
  rintro v4 w5 ⟨h5, o5, f5, hv4⟩
  have hnod : ∀ l ∈ d, ofv s l ≠ 1 := fun l hl => by
    obtain ⟨q, hq, e⟩ := List.mem_iff_getElem.1 (hperm.mem_iff.1 hl)
    have := hnoT q hq
    rwa [show g own q = l by simp [g, List.getD_eq_getElem?_getD, hq, e]] at this
  have hmemd : ∀ x, x ∈ d ↔ x ∈ c := fun x => hperm.mem_iff.trans (hmem x)
  obtain ⟨_, _, _, hgood⟩ := put_law hSt hT hl hc (hperm.nodup_iff.2 hnd) hmemd hsd hnod
  have hput : ∀ s' f', s' = (putS n s d).1 → f' = (putS n s d).2 → PutR n s false c s' f' := fun s' f' e1 e2 => .inr (.inr ⟨rfl, d, hperm.nodup_iff.2 hnd, hmemd, hsd, hnod, e1, e2⟩)
  have hcl2 : ∀ l ∈ cutL s d, Lit n l := fun l hl => by
    rw [hcut] at hl
    split at hl
    · cases hl
    · exact (hlitd l (hsub l hl)).1
  have hww : ∀ l ∈ s.watch, l.length < 1099511627774 := fun l hl => by
    obtain ⟨q, hq, rfl⟩ := List.mem_iff_getElem.1 hl
    have h6 := le_sum s.watch q
    rw [List.getD_eq_getElem?_getD, List.getElem?_eq_getElem hq] at h6
    have := hg.ws
    have := hg.tmax
    simp only [Option.getD_some] at h6
    omega
  have hfb := hb.flt
  have hsb := hb.slt
  -- the store at the end
  have fin : ∀ {w6 : World} {s' : S} {V' : Lay} (f' : Bool), Srch w6 B g0 s' V' → Fr (fun k => foot g0 V k ∨ v4.ownBlock = some k) w5 w6 → (∀ k, foot g0 V' k → foot g0 V k ∨ v4.ownBlock = some k ∨ w5.heap.size ≤ k) →
      w6.cell? ⟨fb, 0, none⟩ = some (.bool false) ∧ w6.frozen? ⟨fb, 0, none⟩ = false ∧ w6.cell? ⟨sb, 0, none⟩ = some (.pointer (some ⟨g0, 0, none⟩)) ∧
        (Box (w6.setCell ⟨fb, 0, none⟩ (.bool f')) B g0 s' V' fb sb f' ∧ Fr (fun k => foot g0 V k ∨ k = fb) w (w6.setCell ⟨fb, 0, none⟩ (.bool f')) ∧ ∀ k, foot g0 V' k → foot g0 V k ∨ w.heap.size ≤ k) := by
    intro w6 s' V' f' h6 f6 sub6
    have nX : ∀ k, k < w.heap.size → ¬ v4.ownBlock = some k := fun k hk e => by have := hv4 k e; omega
    have nF : ∀ k, k < w.heap.size → ¬ foot g0 V k → ¬ foot g0 V' k := fun k hk hn hf => by
      rcases sub6 k hf with h7 | h7 | h7
      · exact hn h7
      · exact nX k hk h7
      · have := f5.size; omega
    have cf := f6.cell h5.fc (fun e => e.elim h5.fne (nX fb hfb))
    have cs := f6.cell h5.sc (fun e => e.elim h5.sne (nX sb hsb))
    have uf := f6.unfr h5.fc h5.fu (fun e => e.elim h5.fne (nX fb hfb))
    have fs : Fr (fun k => k = fb) w6 (w6.setCell ⟨fb, 0, none⟩ (.bool f')) := ⟨rfl, rfl, rfl, by rw [setCell_size]; exact Nat.le_refl _, fun k _ hk => Below.heap_setCell w6 _ _ k hk⟩
    refine ⟨cf, uf, cs, ⟨h6.fr fs (fun k hk => by rw [show k = fb from hk]; exact nF fb hfb h5.fne), World.cell?_setCell_same' w6 _ _ (by rw [cf]; rfl), by rw [World.frozen?_setCell]; exact uf, fs.cell cs (fun e => hb.fs (show sb = fb from e).symm), nF fb hfb h5.fne, nF sb hsb h5.sne, hb.fs⟩, ?_, fun k hk => ?_⟩
    · exact ((stay f5).trans f6 (fun k hk => hk.elim (fun h => .inl (.inl h)) fun e => .inr (hv4 k e))).trans fs fun k hk => .inl (.inr hk)
    · rcases sub6 k hk with h7 | h7 | h7
      · exact .inl h7
      · exact .inr (hv4 k h7)
      · exact .inr (by have := f5.size; omega)
  cases hA : (addS s (cutL s d)).2 with
  | false =>
    have e : putS n s d = ((addS s (cutL s d)).1, true) := by unfold putS; rw [hA]; rfl
    have hadd := add_calls h5.srch hg.fine o5 hcl2 hww
    rw [hA] at hadd
    refine FC.region ?_
    refine FL.val _ _ rfl rfl (p_load rfl Try.underlying49 rfl h5.sc) ?_
    refine FL.pur rfl rfl (p_move rfl) ?_
    refine FL.call rfl rfl (p_call Try.func36 rfl rfl rfl) (hadd) ?_
    rintro e_ w_ ⟨rfl, V6, h6, G6⟩
    refine ⟨_, rfl, ?_⟩
    refine FL.pur rfl rfl (p_not rfl) ?_
    refine FL.pur rfl rfl (p_move rfl) ?_
    refine FL.off rfl rfl ?_
    refine FL.off rfl rfl ?_
    refine FL.off rfl rfl ?_
    refine FL.pur rfl rfl (p_pick_t rfl rfl) ?_
    obtain ⟨q1, q2, q3, q4, q5, q6⟩ := fin true h6 G6.fr G6.sub
    refine FL.sto _ rfl (st4 rfl rfl rfl q1 q2) ?_
    refine FL.nil ?_
    exact end0 Try.results31 ⟨rfl, _, V6, true, q4, hput _ _ (by rw [e]) (by rw [e]), q5, q6⟩
  | true =>
    have e : putS n s d = ((prop (n + 1 - (addS s (cutL s d)).1.head.toNat) (addS s (cutL s d)).1).1, decide (0 ≤ (prop (n + 1 - (addS s (cutL s d)).1.head.toNat) (addS s (cutL s d)).1).2)) := by unfold putS; rw [hA]; rfl
    have hadd := add_calls h5.srch hg.fine o5 hcl2 hww
    rw [hA] at hadd
    have hg2 := hgood hA
    refine FC.region ?_
    refine FL.val _ _ rfl rfl (p_load rfl Try.underlying49 rfl h5.sc) ?_
    refine FL.pur rfl rfl (p_move rfl) ?_
    refine FL.call rfl rfl (p_call Try.func36 rfl rfl rfl) (hadd) ?_
    rintro e_ w_ ⟨rfl, V6, h6, G6⟩
    refine ⟨_, rfl, ?_⟩
    refine FL.pur rfl rfl (p_not rfl) ?_
    refine FL.pur rfl rfl (p_move rfl) ?_
    refine FL.val _ _ rfl rfl (p_load rfl Try.underlying49 rfl (fin true h6 G6.fr G6.sub).2.2.1) ?_
    refine FL.call rfl rfl (p_call Try.func37 rfl rfl rfl) (propagate_calls h6 hg2) ?_
    rintro e_ w_ ⟨rfl, V7, h7, G7⟩
    refine ⟨_, rfl, ?_⟩
    refine FL.pur rfl rfl (p_geq rfl rfl rfl) ?_
    refine FL.pur rfl rfl (p_pick_f rfl rfl) ?_
    obtain ⟨q1, q2, q3, q4, q5, q6⟩ := fin (decide (0 ≤ (prop (n + 1 - (addS s (cutL s d)).1.head.toNat) (addS s (cutL s d)).1).2)) h7 (G6.trans G7).fr (G6.trans G7).sub
    refine FL.sto _ rfl (st4 rfl rfl rfl q1 q2) ?_
    refine FL.nil ?_
    exact end0 Try.results31 ⟨rfl, _, V7, _, q4, hput _ _ (by rw [e]) (by rw [e]), q5, q6⟩
end
end Go.Proofs.Ytcahhbcehnbdkaa.Sv

/- Propagation as a law: the start, and what a run of puts keeps. -/
namespace Go.Proofs.Ytcahhbcehnbdkaa.Sv
open Go.RowKit Go.Proofs.YtcahhbcehnbdkaaW.PrintWords

theorem getD_replicate {α : Type} (n i : Nat) (d : α) : (List.replicate n d).getD i d = d := by
  rw [List.getD_eq_getElem?_getD, List.getElem?_replicate]
  split <;> rfl
theorem zeros_replicate (n : Nat) : zeros (List.replicate n 0) = n := by simp [zeros]
theorem sum_nil (n : Nat) : ((List.replicate n ([] : List Int)).map List.length).sum = 0 := by
  induction n with
  | zero => rfl
  | succ n ih => simp [List.replicate_succ, ih]
theorem begin_still (m : Nat) (hm : m < 1073741824) {T : Nat} (hT : T < 1099511627774) : Still [] (beginS m) (m + 1) T where
  ok := {
    good := {
      value := by simp [beginS]
      level := by simp [beginS]
      reason := by simp [beginS]
      watch := by simp [beginS]
      small := fun x hx => by rw [List.eq_of_mem_replicate (show x ∈ List.replicate (m + 1) (0 : Int) from hx)]; omega
      nmax := by omega
      cls := by simp [beginS]
      cl := fun c hc => by cases hc
      wt := fun r hr i hi => by rw [List.eq_of_mem_replicate (show r ∈ List.replicate (2 * (m + 1)) ([] : List Int) from hr)] at hi; cases hi
      ws := by show ((List.replicate (2 * (m + 1)) ([] : List Int)).map List.length).sum ≤ T; rw [sum_nil]; omega
      tmax := hT
      tr := by show 0 + zeros (List.replicate (m + 1) 0) ≤ m + 1; rw [zeros_replicate]; omega
      trl := fun l hl => by cases hl
      hd0 := Int.le_refl _
      hd1 := Int.le_refl _
      nzc := fun c hc => by cases hc
      nzt := fun l hl => by cases hl
      tt := fun l hl => by cases hl }
    net := {
      has := fun j x y hj _ => absurd hj.1 (Nat.not_lt_zero j)
      only := fun q j hq hj => by
        have e : row (beginS m) q = [] := getD_replicate _ _ _
        rw [e] at hj; cases hj
      nd := fun q => by
        have e : row (beginS m) q = [] := getD_replicate _ _ _
        rw [e]; simp
      cnd := fun c hc => by cases hc }
    tnd := by simp [beginS]
    only := fun l hl hz hv => by
      rw [ofv_at] at hv
      have e : (beginS m).value.getD (av l).toNat 0 = 0 := getD_replicate _ _ _
      rw [e] at hv
      split at hv <;> omega
    sound := fun l hl => by cases hl
    src := fun j hj => absurd hj.1 (Nat.not_lt_zero j)
    kle := fun k hk => by cases hk
    wat := fun k hk => by cases hk }
  head := rfl
  pro := fun j x y hj => absurd hj.1 (Nat.not_lt_zero j)
  cov := fun c hc => by cases hc
  nz := fun c hc => by cases hc
  marks := rfl

/-- Where a run of puts stands: nothing is left to do, or a conflict is known. -/
def St (Φ : List (List Int)) (n T : Nat) (s : S) (f : Bool) : Prop := (f = false → Still Φ s n T) ∧ (f = true → Conf Φ fun _ => False)
theorem Conf.more {Φ Φ' : List (List Int)} {A A' : Int → Prop} (h : Conf Φ A) (hΦ : ∀ c ∈ Φ, c ∈ Φ') (hA : ∀ l, A l → A' l) : Conf Φ' A' := by
  obtain ⟨c, h1, h2⟩ := h
  exact ⟨c, hΦ c h1, fun m hm => (h2 m hm).mono hΦ hA⟩
theorem Still.room {Φ : List (List Int)} {s : S} {n T T' : Nat} (h : Still Φ s n T) (hT : T ≤ T') (hm : T' < 1099511627774) : Still Φ s n T' := { h with ok := h.ok.room hT hm }
theorem put_st {Φ : List (List Int)} {n T : Nat} {s s' : S} {f f' : Bool} {c : List Int} (h : St Φ n T s f) (hp : PutR n s f c s' f') (hT : T + 2 < 1099511627774) (hl : s.clauses.length + 1 < 1099511627776) (hc : ∀ l ∈ c, Lit n l ∧ l ≠ 0) :
    St (Φ ++ [c]) n (T + 2) s' f' ∧ s'.clauses.length ≤ s.clauses.length + 1 := by
  have hin : ∀ c' ∈ Φ, c' ∈ Φ ++ [c] := fun c' hc' => List.mem_append.2 (.inl hc')
  rcases hp with ⟨e1, rfl, e2⟩ | ⟨e1, rfl, e2, h3⟩ | ⟨e1, own, p1, p2, p3, p4, rfl, e2⟩
  · exact ⟨⟨fun e => (by rw [e2] at e; cases e), fun _ => (h.2 e1).more hin fun _ h => h⟩, by omega⟩
  · exact ⟨⟨fun _ => ((h.1 e1).skip hc h3).room (by omega) hT, fun e => (by rw [e2] at e; cases e)⟩, by omega⟩
  · obtain ⟨q1, q2, q3, _⟩ := put_law (h.1 e1) hT hl hc p1 p2 p3 p4
    exact ⟨⟨fun e => q1 (e2 ▸ e), fun e => q2 (e2 ▸ e)⟩, q3⟩
theorem Still.noconf {Φ : List (List Int)} {s : S} {n T : Nat} (h : Still Φ s n T) : ¬ Conf Φ fun _ => False := (closed_all h.ok h.pro h.cov h.nz fun _ h => h.elim).2
/-- Behind a conflict every clause follows. -/
theorem follows_of_conf {Φ : List (List Int)} (h : Conf Φ fun _ => False) (c : List Int) : Taut c ∨ Conf Φ fun l => -l ∈ c := .inr (h.more (fun _ h => h) fun _ h => h.elim)
end Go.Proofs.Ytcahhbcehnbdkaa.Sv

/- Walks of Check and what it calls. -/
namespace Go.Proofs.Ytcahhbcehnbdkaa.Sv
open Go.RowKit Go.Proofs.YtcahhbcehnbdkaaW.PrintWords Go.Proofs.YtcahhbcehnbdkaaW.PrintLast Go.Proofs.Ytcahhbcehnbdkaa.Eng

/-- Rows of rows of numbers that are only read. -/
def Rws (w : World) (B : Nat) (v : Value) (cs : List (List Int)) : Prop :=
  ∃ A cap, v = .slice A cs.length cap ∧ ∀ i, i < cs.length → ∃ ad u, A = some ad ∧ ad.block < B ∧ w.cell? (ad.add i) = some u ∧ Row w B u (cs.getD i [])
theorem Rws.fr {w w' : World} {B : Nat} {v : Value} {cs : List (List Int)} {F : Nat → Prop} (h : Rws w B v cs) (hf : Fr F w w') (hb : ∀ k, k < B → ¬ F k) : Rws w' B v cs := by
  obtain ⟨A, cap, rfl, h1⟩ := h
  refine ⟨A, cap, rfl, fun i hi => ?_⟩
  obtain ⟨ad, u, e1, e2, e3, e4⟩ := h1 i hi
  exact ⟨ad, u, e1, e2, hf.cell e3 (by rw [add_block]; exact hb _ e2), e4.fr hf hb⟩
def longB (c : List Int) : Bool := decide (5000 < c.length)
def knownB (a l : Int) : Bool := !(decide (l = 0) || decide (a < l) || decide (l < -a))
def checkV (a : Int) (cs : List (List Int)) : Int := if 5000 < a ∨ 20000 < cs.length ∨ cs.any longB = true then 4 else if a < 0 ∨ (cs.all fun c => c.all (knownB a)) = false then 8 else 0

section
variable {w : World} {B : Nat}
theorem long_calls {v : Value} {c : List Int} (h : Row w B v c) : Calls Try.prog 24 #[v] w fun e w' => e = .returned (.bool (longB c)) ∧ w = w' := by
  obtain ⟨A, cap, rfl, _⟩ := h
  refine calls_of_FC (N := 6) (vs := [.slice A c.length cap]) Try.func24 rfl Try.ntmps24 (Nat.le_of_ble_eq_true rfl) ?_
  refine FC.seq (FC.region ?_)
  refine FL.pur rfl rfl (p_assign rfl) ?_
  refine FL.nilK ?_
  refine FC.seq (FC.region ?_)
  refine FL.pur rfl rfl (p_move rfl) ?_
  refine FL.pur rfl rfl (p_len rfl Try.underlying41) ?_
  refine FL.pur rfl rfl (p_gtr rfl rfl (show decide ((5000 : Int) < (c.length : Int)) = longB c by unfold longB; rw [decide_eq_decide]; omega)) ?_
  refine FL.pur rfl rfl (p_assign rfl) ?_
  refine FL.nilK ?_
  refine FC.ret ?_
  repeat (first | with_reducible refine thn_ret ?_ | with_reducible refine blk_ret ?_ | with_reducible refine nog_ret ?_)
  exact ret1 Try.results24 rfl ⟨rfl, rfl⟩
theorem any_take (p : List Int → Bool) (cs : List (List Int)) (i : Nat) (hi : i < cs.length) (h : (cs.take i).any p = false) : (cs.take (i + 1)).any p = p (cs.getD i []) := by
  rw [List.take_add_one, List.any_append, h, List.getElem?_eq_getElem hi, List.getD_eq_getElem?_getD, List.getElem?_eq_getElem hi]
  simp
theorem index_calls {v : Value} {cs : List (List Int)} (h : Rws w B v cs) (hl : cs.length < 4611686018427387904) : Calls Try.prog 43 #[v, .func (.func 24) #[] #[]] w fun e w' => (∃ i : Int, e = .returned (.int .i64 i) ∧ decide (0 ≤ i) = cs.any longB) ∧ w = w' := by
  obtain ⟨A, cap, rfl, hcell⟩ := h
  refine calls_of_FC (N := 19) (vs := [.slice A cs.length cap, .func (.func 24) #[] #[]]) Try.func43 rfl Try.ntmps43 (Nat.le_of_ble_eq_true rfl) ?_
  refine FC.seq (FC.region ?_)
  refine FL.pur rfl rfl (p_assign rfl) ?_
  refine FL.nilK ?_
  refine FC.cut (σ := Unit) (fun _ => []) (fun _ w2 => w = w2 ∧ cs.any longB = false) ?_ ?_
  · refine FC.seq (FC.region ?_)
    refine FL.pur rfl rfl (p_move rfl) ?_
    refine FL.pur rfl rfl (p_len rfl Try.underlying22) ?_
    refine FL.pur rfl rfl (p_move rfl) ?_
    refine FL.nilK ?_
    refine FC.block ?_
    refine FC.loop (σ := Nat) (fun x => [(0, .slice A cs.length cap), (1, .func (.func 24) #[] #[]), (7, .int .i64 cs.length), (8, .int .i64 x)]) (fun x w2 => w = w2 ∧ x ≤ cs.length ∧ (cs.take x).any longB = false) (fun x => cs.length - x) 0 ⟨rfl, Nat.zero_le _, rfl⟩ ⟨rfl, rfl, rfl, rfl, trivial⟩ ?_
    rintro i w2 ⟨rfl, hi, hn⟩
    refine FC.seq (FC.region ?_)
    refine FL.pur rfl rfl (p_lss rfl rfl rfl) ?_
    refine FL.nilK ?_
    refine FC.seq ?_
    refine FC.cond (decide ((i : Int) < (cs.length : Int))) rfl (fun hcc => FC.skip (thn_normal ?_)) (fun hcc => FC.exit ?_)
    rotate_left
    · have hge : ¬ (i : Int) < (cs.length : Int) := of_decide_eq_false hcc
      rw [List.take_of_length_le (by omega)] at hn
      exact thn_exit (thn_exit (blk_exit ⟨(), trivial, rfl, hn⟩))
    have hlt : i < cs.length := by have := of_decide_eq_true hcc; omega
    obtain ⟨ad, u, rfl, _, hc0, hrow⟩ := hcell i hlt
    have hc1 : w.cell? (ad.add (i : Int).toNat) = some u := hc0
    refine FC.seq ?_
    refine FC.block ?_
    refine FC.seq (FC.region ?_)
    refine FL.pur rfl rfl (p_move rfl) ?_
    refine FL.pur rfl rfl (p_assign rfl) ?_
    refine FL.nilK ?_
    refine FC.seq (FC.region ?_)
    refine FL.pur rfl rfl (p_move rfl) ?_
    refine FL.pur rfl rfl (p_move rfl) ?_
    refine FL.pur rfl rfl (p_move rfl) ?_
    refine FL.pur rfl rfl (p_indexA rfl rfl Try.underlying22 inf41_eq inf41_size (by omega) (by omega)) ?_
    refine FL.val _ _ rfl rfl (p_load rfl Try.underlying41 rfl hc1) ?_
    refine FL.call rfl rfl (p_callv (cap := []) rfl Try.func24 rfl rfl rfl) (long_calls hrow) ?_
    rintro e_ w_ ⟨rfl, rfl⟩
    refine ⟨_, rfl, ?_⟩
    refine FL.nilK ?_
    have hst := any_take longB cs i hlt hn
    refine FC.cond (longB (cs.getD i [])) rfl (fun hcc => ?_) (fun hcc => FC.skip ?_)
    · refine FC.seq (FC.region ?_)
      refine FL.pur rfl rfl (p_move rfl) ?_
      refine FL.pur rfl rfl (p_assign rfl) ?_
      refine FL.nilK ?_
      refine FC.ret ?_
      repeat (first | with_reducible refine thn_ret ?_ | with_reducible refine blk_ret ?_ | with_reducible refine nog_ret ?_)
      refine ret1 Try.results43 rfl ⟨⟨_, rfl, ?_⟩, rfl⟩
      have h1 : cs.any longB = true := List.any_eq_true.2 ⟨cs.getD i [], mem_getD hlt, hcc⟩
      rw [h1]
      exact decide_eq_true (by omega)
    · rw [hcc] at hst
      refine blk_normal (thn_normal ?_)
      refine FC.region ?_
      refine FL.pur rfl rfl (p_add rfl rfl ((wr (by omega) (by omega)).trans (show (i : Int) + 1 = ((i + 1 : Nat) : Int) by omega))) ?_
      refine FL.pur rfl rfl (p_move rfl) ?_
      refine FL.nil ?_
      exact ⟨i + 1, ⟨rfl, rfl, rfl, rfl, trivial⟩, ⟨rfl, hlt, hst⟩, by show cs.length - (i + 1) < cs.length - i; omega⟩
  rintro - w2 ⟨rfl, hn⟩
  refine FC.seq (FC.region ?_)
  refine FL.pur rfl rfl (p_assign rfl) ?_
  refine FL.nilK ?_
  refine FC.ret ?_
  repeat (first | with_reducible refine thn_ret ?_ | with_reducible refine blk_ret ?_ | with_reducible refine nog_ret ?_)
  exact ret1 Try.results43 rfl ⟨⟨-1, rfl, by rw [hn]; rfl⟩, rfl⟩
theorem contains_calls {v : Value} {cs : List (List Int)} (h : Rws w B v cs) (hl : cs.length < 4611686018427387904) : Calls Try.prog 25 #[v, .func (.func 24) #[] #[]] w fun e w' => e = .returned (.bool (cs.any longB)) ∧ w = w' := by
  have h' := h
  obtain ⟨A, cap, rfl, _⟩ := h
  refine calls_of_FC (N := 9) (vs := [.slice A cs.length cap, .func (.func 24) #[] #[]]) Try.func25 rfl Try.ntmps25 (Nat.le_of_ble_eq_true rfl) ?_
  refine FC.seq (FC.region ?_)
  refine FL.pur rfl rfl (p_assign rfl) ?_
  refine FL.nilK ?_
  refine FC.seq (FC.region ?_)
  refine FL.pur rfl rfl (p_move rfl) ?_
  refine FL.pur rfl rfl (p_move rfl) ?_
  refine FL.call rfl rfl (p_call Try.func43 rfl rfl rfl) (index_calls h' hl) ?_
  rintro e_ w_ ⟨⟨i, rfl, hi⟩, rfl⟩
  refine ⟨_, rfl, ?_⟩
  refine FL.pur rfl rfl (p_geq rfl rfl hi) ?_
  refine FL.pur rfl rfl (p_assign rfl) ?_
  refine FL.nilK ?_
  refine FC.ret ?_
  repeat (first | with_reducible refine thn_ret ?_ | with_reducible refine blk_ret ?_ | with_reducible refine nog_ret ?_)
  exact ret1 Try.results25 rfl ⟨rfl, rfl⟩
theorem all_take {α : Type} (p : α → Bool) (d : α) (c : List α) (k : Nat) (hk : k < c.length) (h : (c.take k).all p = true) : (c.take (k + 1)).all p = p (c.getD k d) := by
  rw [List.take_add_one, List.all_append, h, List.getElem?_eq_getElem hk, List.getD_eq_getElem?_getD, List.getElem?_eq_getElem hk]
  simp
theorem known_calls {v : Value} {cs : List (List Int)} {a : Int} (h : Rws w B v cs) (ha : 0 ≤ a ∧ a ≤ 5000) (hl : cs.length < 4611686018427387904) (hll : ∀ c ∈ cs, c.length < 4611686018427387904) :
    Calls Try.prog 26 #[.int .i64 a, v] w fun e w' => e = .returned (.bool (cs.all fun c => c.all (knownB a))) ∧ w = w' := by
  obtain ⟨A, cap, rfl, hcell⟩ := h
  have bad : ∀ i, i < cs.length → ∀ k, k < (cs.getD i []).length → knownB a (g (cs.getD i []) k) = false → (cs.all fun c => c.all (knownB a)) = false := fun i hi k hk hb => by
    rw [Bool.eq_false_iff]
    intro hall
    have h1 := List.all_eq_true.1 hall _ (mem_getD (d := []) hi)
    have h2 := List.all_eq_true.1 h1 _ (rd_mem (cs.getD i []) k (by omega) (by omega))
    rw [rd_nat, hb] at h2
    cases h2
  refine calls_of_FC (N := 36) (vs := [.int .i64 a, .slice A cs.length cap]) Try.func26 rfl Try.ntmps26 (Nat.le_of_ble_eq_true rfl) ?_
  refine FC.seq (FC.region ?_)
  refine FL.pur rfl rfl (p_assign rfl) ?_
  refine FL.nilK ?_
  refine FC.cut (σ := Unit) (fun _ => []) (fun _ w2 => w = w2 ∧ (cs.all fun c => c.all (knownB a)) = true) ?_ ?_
  rotate_left
  · rintro - w2 ⟨rfl, hn⟩
    refine FC.seq (FC.region ?_)
    refine FL.pur rfl rfl (p_assign rfl) ?_
    refine FL.nilK ?_
    refine FC.ret ?_
    repeat (first | with_reducible refine thn_ret ?_ | with_reducible refine blk_ret ?_ | with_reducible refine nog_ret ?_)
    exact ret1 Try.results26 rfl ⟨by rw [hn], rfl⟩
  refine FC.seq (FC.region ?_)
  refine FL.pur rfl rfl (p_move rfl) ?_
  refine FL.pur rfl rfl (p_len rfl Try.underlying22) ?_
  refine FL.pur rfl rfl (p_move rfl) ?_
  refine FL.nilK ?_
  refine FC.block ?_
  refine FC.loop (σ := Nat) (fun x => [(0, .int .i64 a), (1, .slice A cs.length cap), (9, .slice A cs.length cap), (10, .int .i64 cs.length), (11, .int .i64 x)]) (fun x w2 => w = w2 ∧ x ≤ cs.length ∧ ((cs.take x).all fun c => c.all (knownB a)) = true) (fun x => cs.length - x) 0 ⟨rfl, Nat.zero_le _, rfl⟩ ⟨rfl, rfl, rfl, rfl, rfl, trivial⟩ ?_
  rintro i w2 ⟨rfl, hi, hn⟩
  refine FC.seq (FC.region ?_)
  refine FL.pur rfl rfl (p_lss rfl rfl rfl) ?_
  refine FL.nilK ?_
  refine FC.seq ?_
  refine FC.cond (decide ((i : Int) < (cs.length : Int))) rfl (fun hcc => FC.skip (thn_normal ?_)) (fun hcc => FC.exit ?_)
  rotate_left
  · have hge : ¬ (i : Int) < (cs.length : Int) := of_decide_eq_false hcc
    rw [List.take_of_length_le (by omega)] at hn
    exact thn_exit (thn_exit (blk_exit ⟨(), trivial, rfl, hn⟩))
  have hlt : i < cs.length := by have := of_decide_eq_true hcc; omega
  obtain ⟨ad, u, rfl, _, hc0, hrow⟩ := hcell i hlt
  have hc1 : w.cell? (ad.add i) = some u := hc0
  have hln := hll _ (mem_getD (d := []) hlt)
  have hst := all_take (fun c => c.all (knownB a)) [] cs i hlt hn
  obtain ⟨c, hc⟩ : ∃ c, c = cs.getD i [] := ⟨_, rfl⟩
  have bad := bad i hlt
  rw [← hc] at hrow hln hst bad
  obtain ⟨A2, cap2, rfl, hcell2⟩ := hrow
  refine FC.seq ?_
  refine FC.block ?_
  refine FC.seq (FC.region ?_)
  refine FL.pur rfl rfl (p_indexA rfl rfl Try.underlying22 inf41_eq inf41_size (by omega) (by omega)) ?_
  refine FL.val _ _ rfl rfl (p_load rfl Try.underlying41 rfl hc1) ?_
  refine FL.pur rfl rfl (p_assign rfl) ?_
  refine FL.nilK ?_
  refine FC.seq (FC.region ?_)
  refine FL.pur rfl rfl (p_move rfl) ?_
  refine FL.pur rfl rfl (p_len rfl Try.underlying41) ?_
  refine FL.pur rfl rfl (p_move rfl) ?_
  refine FL.nilK ?_
  refine FC.block ?_
  refine FC.loop (σ := Nat) (fun x => [(0, .int .i64 a), (1, .slice (some ad) cs.length cap), (9, .slice (some ad) cs.length cap), (10, .int .i64 cs.length), (11, .int .i64 i), (15, .slice A2 c.length cap2), (16, .int .i64 c.length), (17, .int .i64 x)]) (fun x w2 => w = w2 ∧ x ≤ c.length ∧ (c.take x).all (knownB a) = true) (fun x => c.length - x) 0 ⟨rfl, Nat.zero_le _, rfl⟩ ⟨rfl, rfl, rfl, rfl, rfl, rfl, rfl, rfl, trivial⟩ ?_
  rintro k w2 ⟨rfl, hk, hkn⟩
  refine FC.seq (FC.region ?_)
  refine FL.pur rfl rfl (p_lss rfl rfl rfl) ?_
  refine FL.nilK ?_
  refine FC.seq ?_
  refine FC.cond (decide ((k : Int) < (c.length : Int))) rfl (fun hcc => FC.skip (thn_normal ?_)) (fun hcc => FC.exit ?_)
  rotate_left
  · have hge : ¬ (k : Int) < (c.length : Int) := of_decide_eq_false hcc
    rw [List.take_of_length_le (by omega)] at hkn
    refine thn_exit (thn_exit (blk_exit (blk_normal (thn_normal ?_))))
    refine FC.region ?_
    refine FL.pur rfl rfl (p_add rfl rfl ((wr (by omega) (by omega)).trans (show (i : Int) + 1 = ((i + 1 : Nat) : Int) by omega))) ?_
    refine FL.pur rfl rfl (p_move rfl) ?_
    refine FL.nil ?_
    exact ⟨i + 1, ⟨rfl, rfl, rfl, rfl, rfl, trivial⟩, ⟨rfl, hlt, hst.trans hkn⟩, by show cs.length - (i + 1) < cs.length - i; omega⟩
  have hklt : k < c.length := by have := of_decide_eq_true hcc; omega
  obtain ⟨ad2, rfl, _, hc2⟩ := hcell2 k hklt
  have hc3 : w.cell? (ad2.add k) = some (.int .i64 (g c k)) := hc2
  have hst2 := all_take (knownB a) 0 c k hklt hkn
  obtain ⟨l, hl⟩ : ∃ l, l = g c k := ⟨_, rfl⟩
  have bad := bad k hklt
  rw [← hl] at hc3 bad
  rw [show c.getD k 0 = l from hl.symm] at hst2
  have hna : (IntKind.i64.wrap (-a)) = -a := wr (by omega) (by omega)
  refine FC.seq ?_
  refine FC.block ?_
  refine FC.seq (FC.region ?_)
  refine FL.pur rfl rfl (p_indexA rfl rfl Try.underlying41 inf3_eq inf3_size (by omega) (by omega)) ?_
  refine FL.val _ _ rfl rfl (p_load rfl Try.underlying3 rfl hc3) ?_
  refine FL.pur rfl rfl (p_assign rfl) ?_
  refine FL.nilK ?_
  by_cases l0 : l = 0
  · refine FC.seq (FC.region ?_)
    refine FL.pur rfl rfl (p_move rfl) ?_
    refine FL.pur rfl rfl (p_eql rfl rfl (decide_eq_true l0)) ?_
    refine FL.pur rfl rfl (p_move rfl) ?_
    refine FL.off rfl rfl ?_
    refine FL.off rfl rfl ?_
    refine FL.off rfl rfl ?_
    refine FL.pur rfl rfl (p_pick_t rfl rfl) ?_
    refine FL.pur rfl rfl (p_move rfl) ?_
    refine FL.off rfl rfl ?_
    refine FL.off rfl rfl ?_
    refine FL.off rfl rfl ?_
    refine FL.off rfl rfl ?_
    refine FL.pur rfl rfl (p_pick_t rfl rfl) ?_
    refine FL.nilK ?_
    refine FC.cond_t rfl ?_
    refine FC.seq (FC.region ?_)
    refine FL.pur rfl rfl (p_assign rfl) ?_
    refine FL.nilK ?_
    refine FC.ret ?_
    repeat (first | with_reducible refine thn_ret ?_ | with_reducible refine blk_ret ?_ | with_reducible refine nog_ret ?_)
    exact ret1 Try.results26 rfl ⟨by rw [bad (by simp [knownB, l0])], rfl⟩
  by_cases l1 : a < l
  · refine FC.seq (FC.region ?_)
    refine FL.pur rfl rfl (p_move rfl) ?_
    refine FL.pur rfl rfl (p_eql rfl rfl (decide_eq_false l0)) ?_
    refine FL.pur rfl rfl (p_move rfl) ?_
    refine FL.pur rfl rfl (p_move rfl) ?_
    refine FL.pur rfl rfl (p_move rfl) ?_
    refine FL.pur rfl rfl (p_gtr rfl rfl (decide_eq_true l1)) ?_
    refine FL.pur rfl rfl (p_pick_f rfl rfl) ?_
    refine FL.pur rfl rfl (p_move rfl) ?_
    refine FL.off rfl rfl ?_
    refine FL.off rfl rfl ?_
    refine FL.off rfl rfl ?_
    refine FL.off rfl rfl ?_
    refine FL.pur rfl rfl (p_pick_t rfl rfl) ?_
    refine FL.nilK ?_
    refine FC.cond_t rfl ?_
    refine FC.seq (FC.region ?_)
    refine FL.pur rfl rfl (p_assign rfl) ?_
    refine FL.nilK ?_
    refine FC.ret ?_
    repeat (first | with_reducible refine thn_ret ?_ | with_reducible refine blk_ret ?_ | with_reducible refine nog_ret ?_)
    exact ret1 Try.results26 rfl ⟨by rw [bad (by simp [knownB, l1])], rfl⟩
  refine FC.seq (FC.region ?_)
  refine FL.pur rfl rfl (p_move rfl) ?_
  refine FL.pur rfl rfl (p_eql rfl rfl (decide_eq_false l0)) ?_
  refine FL.pur rfl rfl (p_move rfl) ?_
  refine FL.pur rfl rfl (p_move rfl) ?_
  refine FL.pur rfl rfl (p_move rfl) ?_
  refine FL.pur rfl rfl (p_gtr rfl rfl (decide_eq_false l1)) ?_
  refine FL.pur rfl rfl (p_pick_f rfl rfl) ?_
  refine FL.pur rfl rfl (p_move rfl) ?_
  refine FL.pur rfl rfl (p_move rfl) ?_
  refine FL.pur rfl rfl (p_move rfl) ?_
  refine FL.pur rfl rfl (p_neg rfl hna) ?_
  refine FL.pur rfl rfl (p_lss rfl rfl rfl) ?_
  refine FL.pur rfl rfl (p_pick_f rfl rfl) ?_
  refine FL.nilK ?_
  refine FC.cond (decide (l < -a)) rfl (fun hcc => ?_) (fun hcc => FC.skip ?_)
  · refine FC.seq (FC.region ?_)
    refine FL.pur rfl rfl (p_assign rfl) ?_
    refine FL.nilK ?_
    refine FC.ret ?_
    repeat (first | with_reducible refine thn_ret ?_ | with_reducible refine blk_ret ?_ | with_reducible refine nog_ret ?_)
    exact ret1 Try.results26 rfl ⟨by rw [bad (by unfold knownB; rw [hcc]; simp)], rfl⟩
  · refine blk_normal (thn_normal ?_)
    refine FC.region ?_
    refine FL.pur rfl rfl (p_add rfl rfl ((wr (by omega) (by omega)).trans (show (k : Int) + 1 = ((k + 1 : Nat) : Int) by omega))) ?_
    refine FL.pur rfl rfl (p_move rfl) ?_
    refine FL.nil ?_
    have hk1 : knownB a l = true := by unfold knownB; rw [hcc, decide_eq_false l0, decide_eq_false l1]; rfl
    exact ⟨k + 1, ⟨rfl, rfl, rfl, rfl, rfl, rfl, rfl, rfl, trivial⟩, ⟨rfl, hklt, hst2.trans hk1⟩, by show c.length - (k + 1) < c.length - k; omega⟩
theorem check_calls {v : Value} {cs : List (List Int)} (a : Int) (h : Rws w B v cs) (hl : cs.length < 4611686018427387904) (hll : ∀ c ∈ cs, c.length < 4611686018427387904) :
    Calls Try.prog 12 #[.int .i64 a, v] w fun e w' => e = .returned (.int .i64 (checkV a cs)) ∧ w = w' := by
  have h' := h
  obtain ⟨A, cap, rfl, _⟩ := h
  refine calls_of_FC (N := 26) (vs := [.int .i64 a, .slice A cs.length cap]) Try.func12 rfl Try.ntmps12 (Nat.le_of_ble_eq_true rfl) ?_
  refine FC.seq (FC.region ?_)
  refine FL.pur rfl rfl (p_assign rfl) ?_
  refine FL.nilK ?_
  refine FC.seq (FC.region ?_)
  refine FL.pur rfl rfl (p_assign rfl) ?_
  refine FL.nilK ?_
  have hmany : (5000 < a ∨ 20000 < cs.length ∨ cs.any longB = true) → checkV a cs = 4 := fun h => by unfold checkV; rw [if_pos h]
  refine FC.seq ?_
  by_cases c1 : 5000 < a
  · refine FC.seq (FC.region ?_)
    refine FL.pur rfl rfl (p_move rfl) ?_
    refine FL.pur rfl rfl (p_gtr rfl rfl (decide_eq_true c1)) ?_
    refine FL.pur rfl rfl (p_move rfl) ?_
    refine FL.off rfl rfl ?_
    refine FL.off rfl rfl ?_
    refine FL.off rfl rfl ?_
    refine FL.pur rfl rfl (p_pick_t rfl rfl) ?_
    refine FL.pur rfl rfl (p_move rfl) ?_
    refine FL.off rfl rfl ?_
    refine FL.off rfl rfl ?_
    refine FL.off rfl rfl ?_
    refine FL.pur rfl rfl (p_pick_t rfl rfl) ?_
    refine FL.nilK ?_
    refine FC.cond_t rfl ?_
    refine FC.seq (FC.region ?_)
    refine FL.pur rfl rfl (p_assign rfl) ?_
    refine FL.nilK ?_
    refine FC.ret ?_
    repeat (first | with_reducible refine thn_ret ?_ | with_reducible refine blk_ret ?_ | with_reducible refine nog_ret ?_)
    exact ret1 Try.results12 rfl ⟨by rw [hmany (.inl c1)], rfl⟩
  by_cases c2 : 20000 < cs.length
  · refine FC.seq (FC.region ?_)
    refine FL.pur rfl rfl (p_move rfl) ?_
    refine FL.pur rfl rfl (p_gtr rfl rfl (decide_eq_false c1)) ?_
    refine FL.pur rfl rfl (p_move rfl) ?_
    refine FL.pur rfl rfl (p_move rfl) ?_
    refine FL.pur rfl rfl (p_len rfl Try.underlying22) ?_
    refine FL.pur rfl rfl (p_gtr rfl rfl (decide_eq_true (by omega))) ?_
    refine FL.pur rfl rfl (p_pick_f rfl rfl) ?_
    refine FL.pur rfl rfl (p_move rfl) ?_
    refine FL.off rfl rfl ?_
    refine FL.off rfl rfl ?_
    refine FL.off rfl rfl ?_
    refine FL.pur rfl rfl (p_pick_t rfl rfl) ?_
    refine FL.nilK ?_
    refine FC.cond_t rfl ?_
    refine FC.seq (FC.region ?_)
    refine FL.pur rfl rfl (p_assign rfl) ?_
    refine FL.nilK ?_
    refine FC.ret ?_
    repeat (first | with_reducible refine thn_ret ?_ | with_reducible refine blk_ret ?_ | with_reducible refine nog_ret ?_)
    exact ret1 Try.results12 rfl ⟨by rw [hmany (.inr (.inl c2))], rfl⟩
  refine FC.seq (FC.region ?_)
  refine FL.pur rfl rfl (p_move rfl) ?_
  refine FL.pur rfl rfl (p_gtr rfl rfl (decide_eq_false c1)) ?_
  refine FL.pur rfl rfl (p_move rfl) ?_
  refine FL.pur rfl rfl (p_move rfl) ?_
  refine FL.pur rfl rfl (p_len rfl Try.underlying22) ?_
  refine FL.pur rfl rfl (p_gtr rfl rfl (decide_eq_false (by omega))) ?_
  refine FL.pur rfl rfl (p_pick_f rfl rfl) ?_
  refine FL.pur rfl rfl (p_move rfl) ?_
  refine FL.pur rfl rfl (p_move rfl) ?_
  refine FL.pur rfl rfl (p_move rfl) ?_
  refine FL.call rfl rfl (p_call Try.func25 rfl rfl rfl) (contains_calls h' hl) ?_
  rintro e_ w_ ⟨rfl, rfl⟩
  refine ⟨_, rfl, ?_⟩
  refine FL.pur rfl rfl (p_pick_f rfl rfl) ?_
  refine FL.nilK ?_
  refine FC.cond (cs.any longB) rfl (fun c3 => ?_) (fun c3 => FC.skip (thn_normal ?_))
  · have hq : True := trivial
    refine FC.seq (FC.region ?_)
    refine FL.pur rfl rfl (p_assign rfl) ?_
    refine FL.nilK ?_
    refine FC.ret ?_
    repeat (first | with_reducible refine thn_ret ?_ | with_reducible refine blk_ret ?_ | with_reducible refine nog_ret ?_)
    exact ret1 Try.results12 rfl ⟨by rw [hmany (.inr (.inr c3))], rfl⟩
  have hno : ¬ (5000 < a ∨ 20000 < cs.length ∨ cs.any longB = true) := fun h => h.elim c1 fun h => h.elim c2 fun h => by rw [c3] at h; cases h
  have hbad : (a < 0 ∨ (cs.all fun c => c.all (knownB a)) = false) → checkV a cs = 8 := fun h => by unfold checkV; rw [if_neg hno, if_pos h]
  refine FC.seq ?_
  by_cases c4 : a < 0
  · refine FC.seq (FC.region ?_)
    refine FL.pur rfl rfl (p_move rfl) ?_
    refine FL.pur rfl rfl (p_lss rfl rfl (decide_eq_true c4)) ?_
    refine FL.pur rfl rfl (p_move rfl) ?_
    refine FL.off rfl rfl ?_
    refine FL.off rfl rfl ?_
    refine FL.off rfl rfl ?_
    refine FL.off rfl rfl ?_
    refine FL.pur rfl rfl (p_pick_t rfl rfl) ?_
    refine FL.nilK ?_
    refine FC.cond_t rfl ?_
    refine FC.seq (FC.region ?_)
    refine FL.pur rfl rfl (p_assign rfl) ?_
    refine FL.nilK ?_
    refine FC.ret ?_
    repeat (first | with_reducible refine thn_ret ?_ | with_reducible refine blk_ret ?_ | with_reducible refine nog_ret ?_)
    exact ret1 Try.results12 rfl ⟨by rw [hbad (.inl c4)], rfl⟩
  refine FC.seq (FC.region ?_)
  refine FL.pur rfl rfl (p_move rfl) ?_
  refine FL.pur rfl rfl (p_lss rfl rfl (decide_eq_false c4)) ?_
  refine FL.pur rfl rfl (p_move rfl) ?_
  refine FL.pur rfl rfl (p_move rfl) ?_
  refine FL.pur rfl rfl (p_move rfl) ?_
  refine FL.call rfl rfl (p_call Try.func26 rfl rfl rfl) (known_calls (a := a) h' ⟨by omega, by omega⟩ hl hll) ?_
  rintro e_ w_ ⟨rfl, rfl⟩
  refine ⟨_, rfl, ?_⟩
  refine FL.pur rfl rfl (p_not rfl) ?_
  refine FL.pur rfl rfl (p_pick_f rfl rfl) ?_
  refine FL.nilK ?_
  refine FC.cond (!(cs.all fun c => c.all (knownB a))) rfl (fun c5 => ?_) (fun c5 => FC.skip (thn_normal ?_))
  · have hq : True := trivial
    refine FC.seq (FC.region ?_)
    refine FL.pur rfl rfl (p_assign rfl) ?_
    refine FL.nilK ?_
    refine FC.ret ?_
    repeat (first | with_reducible refine thn_ret ?_ | with_reducible refine blk_ret ?_ | with_reducible refine nog_ret ?_)
    exact ret1 Try.results12 rfl ⟨by rw [hbad (.inr (by simpa using c5))], rfl⟩
  have hok : checkV a cs = 0 := by
    unfold checkV
    rw [if_neg hno, if_neg fun h => h.elim c4 fun h => by rw [h] at c5; cases c5]
  refine FC.seq (FC.region ?_)
  refine FL.pur rfl rfl (p_assign rfl) ?_
  refine FL.nilK ?_
  refine FC.ret ?_
  repeat (first | with_reducible refine thn_ret ?_ | with_reducible refine blk_ret ?_ | with_reducible refine nog_ret ?_)
  exact ret1 Try.results12 rfl ⟨by rw [hok], rfl⟩
end
end Go.Proofs.Ytcahhbcehnbdkaa.Sv

/- Walk of Refutes. -/
namespace Go.Proofs.Ytcahhbcehnbdkaa.Sv
open Go.RowKit Go.Proofs.YtcahhbcehnbdkaaW.PrintWords Go.Proofs.YtcahhbcehnbdkaaW.PrintLast Go.Proofs.Ytcahhbcehnbdkaa.Eng

/-- What it means that a list of clauses is a refutation. -/
def RefSpec (a : Int) (cs ps : List (List Int)) : Prop :=
  checkV a cs = 0 ∧ ps.length ≤ 20000 ∧ checkV a ps = 0 ∧ 0 < ps.length ∧ (ps.getD (ps.length - 1) []).length = 0 ∧ ∀ i, i < ps.length → Taut (ps.getD i []) ∨ Conf (cs ++ ps.take i) fun l => -l ∈ ps.getD i []
theorem p_alloc {P : Program} {ρ : Env} {dst : Option Tmp} {ty : TypeId} {pos : String} {af : Array Edge} {gd : Option (Nat × Bool)} {t : TypeId} {inf : TypeInfo} {z : Value} {w : World} (hi : P.info? t = some inf) (hz : inf.zero = some z) (hzc : z.cells = #[z]) :
    Val P ρ ⟨dst, .alloc t, ty, pos, af, gd⟩ w (.pointer (some ⟨w.heap.size, 0, none⟩)) (w.alloc (.cells #[z] t)) := fun a ha => by
  simp [execOp, Instr.alloc, zeroValue, typeInfo, hi, hz, newVar, newRow, newObj, hzc, Sem.run, World.alloc_eq]
theorem inf49_zeroR : inf49.zero = some (.pointer none) := by kernel_rfl
theorem checkV_bad {a : Int} {cs : List (List Int)} (h : checkV a cs = 0) : 0 ≤ a ∧ a ≤ 5000 ∧ cs.length ≤ 20000 ∧ ∀ c ∈ cs, ∀ l ∈ c, l ≠ 0 ∧ -a ≤ l ∧ l ≤ a := by
  unfold checkV at h
  split at h
  · cases h
  · rename_i h1
    split at h
    · cases h
    · rename_i h2
      refine ⟨by omega, by omega, by omega, fun c hc l hl => ?_⟩
      have h3 : (cs.all fun c => c.all (knownB a)) = true := by
        cases e : (cs.all fun c => c.all (knownB a)) with
        | true => rfl
        | false => exact absurd (.inr e) h2
      have h4 := List.all_eq_true.1 (List.all_eq_true.1 h3 c hc) l hl
      simp only [knownB, Bool.not_eq_true', Bool.or_eq_false_iff, decide_eq_false_iff_not] at h4
      omega
section
variable {w : World} {B : Nat}
theorem Box.goes {w w' : World} {B g0 fb sb : Nat} {s s' : S} {V V' : Lay} {f : Bool} (h : Box w B g0 s V fb sb f) (hs : Srch w' B g0 s' V') (hg : Goes g0 V w V' w') : Box w' B g0 s' V' fb sb f := by
  have nF : ∀ k, k < w.heap.size → ¬ foot g0 V k → ¬ foot g0 V' k := fun k hk hn hf => by
    rcases hg.sub k hf with h1 | h1
    · exact hn h1
    · omega
  exact ⟨hs, hg.fr.cell h.fc h.fne, hg.fr.unfr h.fc h.fu h.fne, hg.fr.cell h.sc h.sne, nF fb h.flt h.fne, nF sb h.slt h.sne, h.fs⟩
theorem clause_calls (w : World) (v : Value) : Calls Try.prog 39 #[v] w fun e w' => e = .returned v ∧ w = w' := by
  refine calls_of_FC (N := 4) (vs := [v]) Try.func39 rfl Try.ntmps39 (Nat.le_of_ble_eq_true rfl) ?_
  refine FC.seq (FC.region ?_)
  refine FL.pur rfl rfl (p_assign rfl) ?_
  refine FL.nilK ?_
  refine FC.seq (FC.region ?_)
  refine FL.pur rfl rfl (p_move rfl) ?_
  refine FL.pur rfl rfl (p_assign rfl) ?_
  refine FL.nilK ?_
  refine FC.ret ?_
  repeat (first | with_reducible refine thn_ret ?_ | with_reducible refine blk_ret ?_ | with_reducible refine nog_ret ?_)
  exact ret1 Try.results39 rfl ⟨rfl, rfl⟩
/-- A new cell, stored into. -/
theorem fresh_cell (w : World) (z v : Value) (t : TypeId) : (w.alloc (.cells #[z] t)).cell? ⟨w.heap.size, 0, none⟩ = some z ∧ (w.alloc (.cells #[z] t)).frozen? ⟨w.heap.size, 0, none⟩ = false ∧
    ((w.alloc (.cells #[z] t)).setCell ⟨w.heap.size, 0, none⟩ v).cell? ⟨w.heap.size, 0, none⟩ = some v ∧ ((w.alloc (.cells #[z] t)).setCell ⟨w.heap.size, 0, none⟩ v).frozen? ⟨w.heap.size, 0, none⟩ = false ∧
    Fr (fun _ => False) w ((w.alloc (.cells #[z] t)).setCell ⟨w.heap.size, 0, none⟩ v) ∧ w.heap.size < ((w.alloc (.cells #[z] t)).setCell ⟨w.heap.size, 0, none⟩ v).heap.size := by
  have h1 : (w.alloc (.cells #[z] t)).cell? ⟨w.heap.size, 0, none⟩ = some z := (cell_of_row _ _ 0 _ _ _ (heap_alloc_new w _)).trans rfl
  have h2 : (w.alloc (.cells #[z] t)).frozen? ⟨w.heap.size, 0, none⟩ = false := blk_frozen (heap_alloc_new w _) 0
  have fs : Fr (fun k => k = w.heap.size) (w.alloc (.cells #[z] t)) ((w.alloc (.cells #[z] t)).setCell ⟨w.heap.size, 0, none⟩ v) := ⟨rfl, rfl, rfl, by rw [setCell_size]; exact Nat.le_refl _, fun k _ hk => Below.heap_setCell _ _ _ k hk⟩
  refine ⟨h1, h2, World.cell?_setCell_same' _ _ _ (by rw [h1]; rfl), by rw [World.frozen?_setCell]; exact h2, (((Fr.refl (fun _ => False) w).alloc _).trans fs fun k hk => .inr (by rw [show k = w.heap.size from hk]; exact Nat.le_refl _)), ?_⟩
  rw [setCell_size]
  simp
theorem box_new {w1 : World} {B0 g0 : Nat} {s : S} {V : Lay} (hs : Srch w1 B0 g0 s V) (w2 w3 : World) (h2 : w2 = (w1.alloc (.cells #[.pointer none] 49)).setCell ⟨w1.heap.size, 0, none⟩ (.pointer (some ⟨g0, 0, none⟩))) (h3 : w3 = (w2.alloc (.cells #[.bool false] 4)).setCell ⟨w2.heap.size, 0, none⟩ (.bool false)) :
    Box w3 B0 g0 s V w2.heap.size w1.heap.size false ∧ Fr (fun _ => False) w1 w3 := by
  obtain ⟨_, _, a3, a4, a5, a6⟩ := fresh_cell w1 (.pointer none) (.pointer (some ⟨g0, 0, none⟩)) 49
  obtain ⟨_, _, b3, b4, b5, b6⟩ := fresh_cell w2 (.bool false) (.bool false) 4
  rw [← h2] at a3 a4 a5 a6
  rw [← h3] at b3 b4 b5 b6
  have f := a5.trans b5 fun _ h => .inl h
  refine ⟨⟨hs.fr f fun _ h => h.elim, b3, b4, b5.cell a3 fun h => h, fun hf => by have := hs.lt hf; omega, fun hf => by have := hs.lt hf; omega, by omega⟩, f⟩
set_option maxHeartbeats 2000000 in
theorem refutes_calls {v1 v2 : Value} {cs ps : List (List Int)} (a : Int) (h1 : Rws w B v1 cs) (h2 : Rws w B v2 ps) (hB : B ≤ w.heap.size) (hl1 : cs.length < 4611686018427387904) (hll1 : ∀ c ∈ cs, c.length < 1099511627776) (hl2 : ps.length < 4611686018427387904) (hll2 : ∀ c ∈ ps, c.length < 1099511627776) :
    Calls Try.prog 16 #[.int .i64 a, v1, v2] w fun e w' => (∃ b : Bool, e = .returned (.bool b) ∧ (b = true ↔ RefSpec a cs ps)) ∧ Fr (fun _ => False) w w' := by
  have h1' := h1
  have h2' := h2
  obtain ⟨A1, cap1, rfl, hc1⟩ := h1
  obtain ⟨A2, cap2, rfl, hc2⟩ := h2
  have k1 := check_calls (w := w) a h1' hl1 fun c hc => by have := hll1 c hc; omega
  have k2 := check_calls (w := w) a h2' hl2 fun c hc => by have := hll2 c hc; omega
  refine calls_of_FC (N := 76) (vs := [.int .i64 a, .slice A1 cs.length cap1, .slice A2 ps.length cap2]) Try.func16 rfl Try.ntmps16 (Nat.le_of_ble_eq_true rfl) ?_
  refine FC.seq (FC.region ?_)
  refine FL.pur rfl rfl (p_assign rfl) ?_
  refine FL.nilK ?_
  refine FC.seq ?_
  by_cases c1 : checkV a cs = 0
  rotate_left
  · refine FC.seq (FC.region ?_)
    refine FL.pur rfl rfl (p_move rfl) ?_
    refine FL.pur rfl rfl (p_move rfl) ?_
    refine FL.call rfl rfl (p_call Try.func12 rfl rfl rfl) (k1) ?_
    rintro e_ w_ ⟨rfl, rfl⟩
    refine ⟨_, rfl, ?_⟩
    refine FL.pur rfl rfl (p_neq rfl rfl (show _ = !true by simp [c1])) ?_
    refine FL.pur rfl rfl (p_move rfl) ?_
    refine FL.off rfl rfl ?_
    refine FL.off rfl rfl ?_
    refine FL.off rfl rfl ?_
    refine FL.pur rfl rfl (p_pick_t rfl rfl) ?_
    refine FL.pur rfl rfl (p_move rfl) ?_
    refine FL.off rfl rfl ?_
    refine FL.off rfl rfl ?_
    refine FL.off rfl rfl ?_
    refine FL.off rfl rfl ?_
    refine FL.pur rfl rfl (p_pick_t rfl rfl) ?_
    refine FL.pur rfl rfl (p_move rfl) ?_
    refine FL.off rfl rfl ?_
    refine FL.off rfl rfl ?_
    refine FL.off rfl rfl ?_
    refine FL.pur rfl rfl (p_pick_t rfl rfl) ?_
    refine FL.pur rfl rfl (p_move rfl) ?_
    refine FL.off rfl rfl ?_
    refine FL.off rfl rfl ?_
    refine FL.off rfl rfl ?_
    refine FL.off rfl rfl ?_
    refine FL.off rfl rfl ?_
    refine FL.off rfl rfl ?_
    refine FL.off rfl rfl ?_
    refine FL.off rfl rfl ?_
    refine FL.pur rfl rfl (p_pick_t rfl rfl) ?_
    refine FL.nilK ?_
    refine FC.cond_t rfl ?_
    refine FC.seq (FC.region ?_)
    refine FL.pur rfl rfl (p_assign rfl) ?_
    refine FL.nilK ?_
    refine FC.ret ?_
    repeat (first | with_reducible refine thn_ret ?_ | with_reducible refine blk_ret ?_ | with_reducible refine nog_ret ?_)
    exact ret1 Try.results16 rfl ⟨⟨false, rfl, by simp [RefSpec, c1]⟩, Fr.refl _ _⟩
  by_cases c2 : 20000 < ps.length
  · refine FC.seq (FC.region ?_)
    refine FL.pur rfl rfl (p_move rfl) ?_
    refine FL.pur rfl rfl (p_move rfl) ?_
    refine FL.call rfl rfl (p_call Try.func12 rfl rfl rfl) (k1) ?_
    rintro e_ w_ ⟨rfl, rfl⟩
    refine ⟨_, rfl, ?_⟩
    refine FL.pur rfl rfl (p_neq rfl rfl (show _ = !false by simp [c1])) ?_
    refine FL.pur rfl rfl (p_move rfl) ?_
    refine FL.pur rfl rfl (p_move rfl) ?_
    refine FL.pur rfl rfl (p_len rfl Try.underlying22) ?_
    refine FL.pur rfl rfl (p_gtr rfl rfl (decide_eq_true (by omega))) ?_
    refine FL.pur rfl rfl (p_pick_f rfl rfl) ?_
    refine FL.pur rfl rfl (p_move rfl) ?_
    refine FL.off rfl rfl ?_
    refine FL.off rfl rfl ?_
    refine FL.off rfl rfl ?_
    refine FL.off rfl rfl ?_
    refine FL.pur rfl rfl (p_pick_t rfl rfl) ?_
    refine FL.pur rfl rfl (p_move rfl) ?_
    refine FL.off rfl rfl ?_
    refine FL.off rfl rfl ?_
    refine FL.off rfl rfl ?_
    refine FL.pur rfl rfl (p_pick_t rfl rfl) ?_
    refine FL.pur rfl rfl (p_move rfl) ?_
    refine FL.off rfl rfl ?_
    refine FL.off rfl rfl ?_
    refine FL.off rfl rfl ?_
    refine FL.off rfl rfl ?_
    refine FL.off rfl rfl ?_
    refine FL.off rfl rfl ?_
    refine FL.off rfl rfl ?_
    refine FL.off rfl rfl ?_
    refine FL.pur rfl rfl (p_pick_t rfl rfl) ?_
    refine FL.nilK ?_
    refine FC.cond_t rfl ?_
    refine FC.seq (FC.region ?_)
    refine FL.pur rfl rfl (p_assign rfl) ?_
    refine FL.nilK ?_
    refine FC.ret ?_
    repeat (first | with_reducible refine thn_ret ?_ | with_reducible refine blk_ret ?_ | with_reducible refine nog_ret ?_)
    exact ret1 Try.results16 rfl ⟨⟨false, rfl, by have : ¬ ps.length ≤ 20000 := by omega
                                                  simp [RefSpec, this]⟩, Fr.refl _ _⟩
  by_cases c3 : checkV a ps = 0
  rotate_left
  · refine FC.seq (FC.region ?_)
    refine FL.pur rfl rfl (p_move rfl) ?_
    refine FL.pur rfl rfl (p_move rfl) ?_
    refine FL.call rfl rfl (p_call Try.func12 rfl rfl rfl) (k1) ?_
    rintro e_ w_ ⟨rfl, rfl⟩
    refine ⟨_, rfl, ?_⟩
    refine FL.pur rfl rfl (p_neq rfl rfl (show _ = !false by simp [c1])) ?_
    refine FL.pur rfl rfl (p_move rfl) ?_
    refine FL.pur rfl rfl (p_move rfl) ?_
    refine FL.pur rfl rfl (p_len rfl Try.underlying22) ?_
    refine FL.pur rfl rfl (p_gtr rfl rfl (decide_eq_false (by omega))) ?_
    refine FL.pur rfl rfl (p_pick_f rfl rfl) ?_
    refine FL.pur rfl rfl (p_move rfl) ?_
    refine FL.pur rfl rfl (p_move rfl) ?_
    refine FL.pur rfl rfl (p_move rfl) ?_
    refine FL.call rfl rfl (p_call Try.func12 rfl rfl rfl) (k2) ?_
    rintro e_ w_ ⟨rfl, rfl⟩
    refine ⟨_, rfl, ?_⟩
    refine FL.pur rfl rfl (p_neq rfl rfl (show _ = !true by simp [c3])) ?_
    refine FL.pur rfl rfl (p_pick_f rfl rfl) ?_
    refine FL.pur rfl rfl (p_move rfl) ?_
    refine FL.off rfl rfl ?_
    refine FL.off rfl rfl ?_
    refine FL.off rfl rfl ?_
    refine FL.pur rfl rfl (p_pick_t rfl rfl) ?_
    refine FL.pur rfl rfl (p_move rfl) ?_
    refine FL.off rfl rfl ?_
    refine FL.off rfl rfl ?_
    refine FL.off rfl rfl ?_
    refine FL.off rfl rfl ?_
    refine FL.off rfl rfl ?_
    refine FL.off rfl rfl ?_
    refine FL.off rfl rfl ?_
    refine FL.off rfl rfl ?_
    refine FL.pur rfl rfl (p_pick_t rfl rfl) ?_
    refine FL.nilK ?_
    refine FC.cond_t rfl ?_
    refine FC.seq (FC.region ?_)
    refine FL.pur rfl rfl (p_assign rfl) ?_
    refine FL.nilK ?_
    refine FC.ret ?_
    repeat (first | with_reducible refine thn_ret ?_ | with_reducible refine blk_ret ?_ | with_reducible refine nog_ret ?_)
    exact ret1 Try.results16 rfl ⟨⟨false, rfl, by simp [RefSpec, c3]⟩, Fr.refl _ _⟩
  by_cases c4 : ps.length = 0
  · refine FC.seq (FC.region ?_)
    refine FL.pur rfl rfl (p_move rfl) ?_
    refine FL.pur rfl rfl (p_move rfl) ?_
    refine FL.call rfl rfl (p_call Try.func12 rfl rfl rfl) (k1) ?_
    rintro e_ w_ ⟨rfl, rfl⟩
    refine ⟨_, rfl, ?_⟩
    refine FL.pur rfl rfl (p_neq rfl rfl (show _ = !false by simp [c1])) ?_
    refine FL.pur rfl rfl (p_move rfl) ?_
    refine FL.pur rfl rfl (p_move rfl) ?_
    refine FL.pur rfl rfl (p_len rfl Try.underlying22) ?_
    refine FL.pur rfl rfl (p_gtr rfl rfl (decide_eq_false (by omega))) ?_
    refine FL.pur rfl rfl (p_pick_f rfl rfl) ?_
    refine FL.pur rfl rfl (p_move rfl) ?_
    refine FL.pur rfl rfl (p_move rfl) ?_
    refine FL.pur rfl rfl (p_move rfl) ?_
    refine FL.call rfl rfl (p_call Try.func12 rfl rfl rfl) (k2) ?_
    rintro e_ w_ ⟨rfl, rfl⟩
    refine ⟨_, rfl, ?_⟩
    refine FL.pur rfl rfl (p_neq rfl rfl (show _ = !false by simp [c3])) ?_
    refine FL.pur rfl rfl (p_pick_f rfl rfl) ?_
    refine FL.pur rfl rfl (p_move rfl) ?_
    refine FL.pur rfl rfl (p_move rfl) ?_
    refine FL.pur rfl rfl (p_len rfl Try.underlying22) ?_
    refine FL.pur rfl rfl (p_eql rfl rfl (decide_eq_true (by omega))) ?_
    refine FL.pur rfl rfl (p_pick_f rfl rfl) ?_
    refine FL.pur rfl rfl (p_move rfl) ?_
    refine FL.off rfl rfl ?_
    refine FL.off rfl rfl ?_
    refine FL.off rfl rfl ?_
    refine FL.off rfl rfl ?_
    refine FL.off rfl rfl ?_
    refine FL.off rfl rfl ?_
    refine FL.off rfl rfl ?_
    refine FL.off rfl rfl ?_
    refine FL.pur rfl rfl (p_pick_t rfl rfl) ?_
    refine FL.nilK ?_
    refine FC.cond_t rfl ?_
    refine FC.seq (FC.region ?_)
    refine FL.pur rfl rfl (p_assign rfl) ?_
    refine FL.nilK ?_
    refine FC.ret ?_
    repeat (first | with_reducible refine thn_ret ?_ | with_reducible refine blk_ret ?_ | with_reducible refine nog_ret ?_)
    exact ret1 Try.results16 rfl ⟨⟨false, rfl, by have : ¬ 0 < ps.length := by omega
                                                  simp [RefSpec, this]⟩, Fr.refl _ _⟩
  obtain ⟨ad, u, rfl, hadB, hcu, hru⟩ := hc2 (ps.length - 1) (by omega)
  obtain ⟨A3, cap3, rfl, _⟩ := hru
  refine FC.seq (FC.region ?_)
  refine FL.pur rfl rfl (p_move rfl) ?_
  refine FL.pur rfl rfl (p_move rfl) ?_
  refine FL.call rfl rfl (p_call Try.func12 rfl rfl rfl) (k1) ?_
  rintro e_ w_ ⟨rfl, rfl⟩
  refine ⟨_, rfl, ?_⟩
  refine FL.pur rfl rfl (p_neq rfl rfl (show _ = !false by simp [c1])) ?_
  refine FL.pur rfl rfl (p_move rfl) ?_
  refine FL.pur rfl rfl (p_move rfl) ?_
  refine FL.pur rfl rfl (p_len rfl Try.underlying22) ?_
  refine FL.pur rfl rfl (p_gtr rfl rfl (decide_eq_false (by omega))) ?_
  refine FL.pur rfl rfl (p_pick_f rfl rfl) ?_
  refine FL.pur rfl rfl (p_move rfl) ?_
  refine FL.pur rfl rfl (p_move rfl) ?_
  refine FL.pur rfl rfl (p_move rfl) ?_
  refine FL.call rfl rfl (p_call Try.func12 rfl rfl rfl) (k2) ?_
  rintro e_ w_ ⟨rfl, rfl⟩
  refine ⟨_, rfl, ?_⟩
  refine FL.pur rfl rfl (p_neq rfl rfl (show _ = !false by simp [c3])) ?_
  refine FL.pur rfl rfl (p_pick_f rfl rfl) ?_
  refine FL.pur rfl rfl (p_move rfl) ?_
  refine FL.pur rfl rfl (p_move rfl) ?_
  refine FL.pur rfl rfl (p_len rfl Try.underlying22) ?_
  refine FL.pur rfl rfl (p_eql rfl rfl (decide_eq_false (by omega))) ?_
  refine FL.pur rfl rfl (p_pick_f rfl rfl) ?_
  refine FL.pur rfl rfl (p_move rfl) ?_
  refine FL.pur rfl rfl (p_move rfl) ?_
  refine FL.pur rfl rfl (p_move rfl) ?_
  refine FL.pur rfl rfl (p_len rfl Try.underlying22) ?_
  refine FL.pur rfl rfl (p_sub rfl rfl ((wr (by omega) (by omega)).trans (show (ps.length : Int) - 1 = ((ps.length - 1 : Nat) : Int) by omega))) ?_
  refine FL.pur rfl rfl (p_indexA rfl rfl Try.underlying22 inf41_eq inf41_size (by omega) (by omega)) ?_
  refine FL.val _ _ rfl rfl (p_load rfl Try.underlying41 rfl hcu) ?_
  refine FL.pur rfl rfl (p_len rfl Try.underlying41) ?_
  refine FL.pur rfl rfl (p_gtr rfl rfl rfl) ?_
  refine FL.pur rfl rfl (p_pick_f rfl rfl) ?_
  refine FL.nilK ?_
  refine FC.cond (decide (0 < ((ps.getD (ps.length - 1) []).length : Int))) rfl (fun c5 => ?_) (fun c5 => FC.skip (thn_normal ?_))
  · have c5 := of_decide_eq_true c5
    refine FC.seq (FC.region ?_)
    refine FL.pur rfl rfl (p_assign rfl) ?_
    refine FL.nilK ?_
    refine FC.ret ?_
    repeat (first | with_reducible refine thn_ret ?_ | with_reducible refine blk_ret ?_ | with_reducible refine nog_ret ?_)
    exact ret1 Try.results16 rfl ⟨⟨false, rfl, by have : ¬ (ps.getD (ps.length - 1) []).length = 0 := by omega
                                                  exact ⟨fun h => (by cases h), fun h => absurd h.2.2.2.2.1 this⟩⟩, Fr.refl _ _⟩
  have c5 : (ps.getD (ps.length - 1) []).length = 0 := by have := of_decide_eq_false c5; omega
  obtain ⟨b1, b2, b3, b4⟩ := checkV_bad c1
  obtain ⟨_, _, _, b5⟩ := checkV_bad c3
  obtain ⟨m, rfl⟩ : ∃ m : Nat, a = m := ⟨a.toNat, by omega⟩
  have lit1 : ∀ c ∈ cs, ∀ l ∈ c, Lit (m + 1) l ∧ l ≠ 0 := fun c hc l hl => by
    have := b4 c hc l hl
    exact ⟨⟨by omega, by omega⟩, this.1⟩
  have lit2 : ∀ c ∈ ps, ∀ l ∈ c, Lit (m + 1) l ∧ l ≠ 0 := fun c hc l hl => by
    have := b5 c hc l hl
    exact ⟨⟨by omega, by omega⟩, this.1⟩
  refine FC.seq (FC.region ?_)
  refine FL.pur rfl rfl (p_move rfl) ?_
  refine FL.call rfl rfl (p_call Try.func30 rfl rfl rfl) (begin_calls w m (by omega)) ?_
  rintro e_ w_ ⟨g0, V, rfl, hs, f1⟩
  refine ⟨_, rfl, ?_⟩
  refine FL.val _ _ rfl rfl (p_alloc inf49_eq inf49_zeroR rfl) ?_
  refine FL.sto _ rfl (st49 rfl rfl rfl (fresh_cell _ _ (.pointer none) 49).1 (fresh_cell _ _ (.pointer none) 49).2.1) ?_
  refine FL.nilK ?_
  refine FC.seq (FC.region ?_)
  refine FL.val _ _ rfl rfl (p_alloc inf4_eq inf4_zero rfl) ?_
  refine FL.sto _ rfl (st4 rfl rfl rfl (fresh_cell _ _ (.bool false) 4).1 (fresh_cell _ _ (.bool false) 4).2.1) ?_
  refine FL.nilK ?_
  refine FC.seq (FC.region ?_)
  refine FL.pur rfl rfl (p_func rfl) ?_
  refine FL.pur rfl rfl (p_assign rfl) ?_
  refine FL.nilK ?_
  obtain ⟨hbx, f2⟩ := box_new hs _ _ rfl rfl
  obtain ⟨sb, hsb⟩ : ∃ sb, sb = w_.heap.size := ⟨_, rfl⟩
  rw [← hsb] at hbx ⊢
  obtain ⟨w2, hw2⟩ : ∃ w2, w2 = (w_.alloc (.cells #[.pointer none] 49)).setCell ⟨sb, 0, none⟩ (.pointer (some ⟨g0, 0, none⟩)) := ⟨_, rfl⟩
  rw [← hsb] at f2
  rw [← hw2] at hbx f2 ⊢
  obtain ⟨fb, hfb⟩ : ∃ fb, fb = w2.heap.size := ⟨_, rfl⟩
  rw [← hfb] at hbx f2 ⊢
  have hfB : w.heap.size ≤ fb := by rw [hfb, hw2, setCell_size]; have := f1.size; simp; omega
  have f3 := f1.trans f2 fun _ h => .inl h
  have f3 := f3.mono (G := fun k => w.heap.size ≤ k) fun _ h => h.elim
  have low : ∀ k, k < B → ¬ w.heap.size ≤ k := fun k hk => by omega
  refine FC.cut (σ := S × Lay × Bool) (fun x => [(0, .int .i64 m), (1, .slice A1 cs.length cap1), (2, .slice (some ad) ps.length cap2), (7, .pointer (some ⟨sb, 0, none⟩)), (8, .pointer (some ⟨fb, 0, none⟩)), (9, .func (.func 31) #[] #[.pointer (some ⟨fb, 0, none⟩), .pointer (some ⟨sb, 0, none⟩)])]) (fun x w2 => Box w2 w.heap.size g0 x.1 x.2.1 fb sb x.2.2 ∧ St cs (m + 1) (2 * cs.length) x.1 x.2.2 ∧ x.1.clauses.length ≤ cs.length ∧ Fr (fun k => w.heap.size ≤ k) w w2) ?_ ?_
  · refine FC.seq (FC.region ?_)
    refine FL.pur rfl rfl (p_move rfl) ?_
    refine FL.pur rfl rfl (p_len rfl Try.underlying22) ?_
    refine FL.pur rfl rfl (p_move rfl) ?_
    refine FL.nilK ?_
    refine FC.block ?_
    refine FC.loop (σ := Nat × S × Lay × Bool) (fun x => [(0, .int .i64 m), (1, .slice A1 cs.length cap1), (2, .slice (some ad) ps.length cap2), (7, .pointer (some ⟨sb, 0, none⟩)), (8, .pointer (some ⟨fb, 0, none⟩)), (9, .func (.func 31) #[] #[.pointer (some ⟨fb, 0, none⟩), .pointer (some ⟨sb, 0, none⟩)]), (47, .slice A1 cs.length cap1), (48, .int .i64 cs.length), (49, .int .i64 x.1)]) (fun x w2 => x.1 ≤ cs.length ∧ Box w2 w.heap.size g0 x.2.1 x.2.2.1 fb sb x.2.2.2 ∧ St (cs.take x.1) (m + 1) (2 * x.1) x.2.1 x.2.2.2 ∧ x.2.1.clauses.length ≤ x.1 ∧ Fr (fun k => w.heap.size ≤ k) w w2)
      (fun x => cs.length - x.1) (0, beginS m, V, false) ⟨Nat.zero_le _, hbx, ⟨fun _ => begin_still m (by omega) (by omega), fun e => (by cases e)⟩, Nat.le_refl _, f3⟩ ⟨rfl, rfl, rfl, rfl, rfl, rfl, rfl, rfl, rfl, trivial⟩ ?_
    rintro ⟨i, s1, V1, f⟩ w3 ⟨hi, hb, hst, hcl, hf⟩
    simp only at hi hb hst hcl hf ⊢
    refine FC.seq (FC.region ?_)
    refine FL.pur rfl rfl (p_lss rfl rfl rfl) ?_
    refine FL.nilK ?_
    refine FC.seq ?_
    refine FC.cond (decide ((i : Int) < (cs.length : Int))) rfl (fun hcc => FC.skip (thn_normal ?_)) (fun hcc => FC.exit ?_)
    rotate_left
    · have hge : ¬ (i : Int) < (cs.length : Int) := of_decide_eq_false hcc
      obtain rfl : i = cs.length := by omega
      rw [List.take_length] at hst
      exact thn_exit (thn_exit (blk_exit ⟨(s1, V1, f), ⟨rfl, rfl, rfl, rfl, rfl, rfl, trivial⟩, hb, hst, hcl, hf⟩))
    have hlt : i < cs.length := by have := of_decide_eq_true hcc; omega
    obtain ⟨ad1, u1, rfl, hadB1, hcu1, hru1⟩ := hc1 i hlt
    have hcu1' : w3.cell? (ad1.add i) = some u1 := hf.cell hcu1 (by rw [add_block]; exact low _ hadB1)
    have hmem1 := mem_getD (d := ([] : List Int)) hlt
    have hput := put_calls (n := m + 1) (Φ := cs.take i) (T := 2 * i) hb hf.size ((hru1.fr hf low).mono hB) (fun l hl => lit1 _ hmem1 l hl) (hll1 _ hmem1) (by omega) hst.1 (by omega) (by omega)
    refine FC.seq ?_
    refine FC.block ?_
    refine FC.seq (FC.region ?_)
    refine FL.pur rfl rfl (p_indexA rfl rfl Try.underlying22 inf41_eq inf41_size (by omega) (by omega)) ?_
    refine FL.val _ _ rfl rfl (p_load rfl Try.underlying41 rfl hcu1') ?_
    refine FL.pur rfl rfl (p_assign rfl) ?_
    refine FL.nilK ?_
    refine FC.region ?_
    refine FL.pur rfl rfl (p_move rfl) ?_
    refine FL.pur rfl rfl (p_move rfl) ?_
    refine FL.call rfl rfl (p_callv (cap := [.pointer (some ⟨fb, 0, none⟩), .pointer (some ⟨sb, 0, none⟩)]) rfl Try.func31 rfl rfl rfl) hput ?_
    rintro e_ w4 ⟨rfl, s2, V2, f', hb4, hp4, hf4, hsub4⟩
    refine ⟨_, rfl, ?_⟩
    refine FL.nil ?_
    obtain ⟨st2, cl2⟩ := put_st hst hp4 (by omega) (by omega) (fun l hl => lit1 _ hmem1 l hl)
    have etake : cs.take (i + 1) = cs.take i ++ [cs.getD i []] := by
      rw [List.take_add_one, List.getElem?_eq_getElem hlt, List.getD_eq_getElem?_getD, List.getElem?_eq_getElem hlt]
      rfl
    refine blk_normal (thn_normal ?_)
    refine FC.region ?_
    refine FL.pur rfl rfl (p_add rfl rfl ((wr (by omega) (by omega)).trans (show (i : Int) + 1 = ((i + 1 : Nat) : Int) by omega))) ?_
    refine FL.pur rfl rfl (p_move rfl) ?_
    refine FL.nil ?_
    refine ⟨(i + 1, s2, V2, f'), ⟨rfl, rfl, rfl, rfl, rfl, rfl, rfl, rfl, rfl, trivial⟩, ⟨hlt, hb4, ?_, by show s2.clauses.length ≤ i + 1; omega, hf.trans hf4 fun k hk => .inl ?_⟩, by show cs.length - (i + 1) < cs.length - i; omega⟩
    · show St (cs.take (i + 1)) (m + 1) (2 * (i + 1)) s2 f'
      rw [etake, show 2 * (i + 1) = 2 * i + 2 by omega]
      exact st2
    · rcases hk with hk | hk
      · exact hb.srch.ge hk
      · rw [hk]; exact hfB
  rintro ⟨s1, V1, f⟩ w3 ⟨hb, hst, hcl, hf⟩
  simp only at hb hst hcl hf ⊢
  clear hbx f2 f3 hs
  have lowf : ∀ {w4 w5 : World}, Fr (fun k => w.heap.size ≤ k) w w5 → Fr (fun _ => False) w w5 := fun h => h.mono fun k hk => .inr hk
  refine FC.cut (σ := Unit) (fun _ => []) (fun _ w2 => Fr (fun k => w.heap.size ≤ k) w w2 ∧ ∀ i, i < ps.length → Taut (ps.getD i []) ∨ Conf (cs ++ ps.take i) fun l => -l ∈ ps.getD i []) ?_ ?_
  rotate_left
  · rintro - w4 ⟨f4, hall⟩
    refine FC.seq (FC.region ?_)
    refine FL.pur rfl rfl (p_assign rfl) ?_
    refine FL.nilK ?_
    refine FC.ret ?_
    repeat (first | with_reducible refine thn_ret ?_ | with_reducible refine blk_ret ?_ | with_reducible refine nog_ret ?_)
    exact ret1 Try.results16 rfl ⟨⟨true, rfl, ⟨fun _ => ⟨c1, by omega, c3, by omega, c5, hall⟩, fun _ => rfl⟩⟩, f4.mono fun k hk => .inr hk⟩
  refine FC.seq (FC.region ?_)
  refine FL.pur rfl rfl (p_move rfl) ?_
  refine FL.pur rfl rfl (p_len rfl Try.underlying22) ?_
  refine FL.pur rfl rfl (p_move rfl) ?_
  refine FL.nilK ?_
  refine FC.block ?_
  refine FC.loop (σ := Nat × S × Lay × Bool) (fun x => [(0, .int .i64 m), (1, .slice A1 cs.length cap1), (2, .slice (some ad) ps.length cap2), (7, .pointer (some ⟨sb, 0, none⟩)), (8, .pointer (some ⟨fb, 0, none⟩)), (9, .func (.func 31) #[] #[.pointer (some ⟨fb, 0, none⟩), .pointer (some ⟨sb, 0, none⟩)]), (57, .slice (some ad) ps.length cap2), (58, .int .i64 ps.length), (59, .int .i64 x.1)]) (fun x w2 => x.1 ≤ ps.length ∧ Box w2 w.heap.size g0 x.2.1 x.2.2.1 fb sb x.2.2.2 ∧ St (cs ++ ps.take x.1) (m + 1) (2 * (cs.length + x.1)) x.2.1 x.2.2.2 ∧ x.2.1.clauses.length ≤ cs.length + x.1 ∧ Fr (fun k => w.heap.size ≤ k) w w2 ∧ ∀ i, i < x.1 → Taut (ps.getD i []) ∨ Conf (cs ++ ps.take i) fun l => -l ∈ ps.getD i [])
    (fun x => ps.length - x.1) (0, s1, V1, f) ⟨Nat.zero_le _, hb, by rw [List.take_zero, List.append_nil]; exact hst, hcl, hf, fun i hi => absurd hi (Nat.not_lt_zero i)⟩ ⟨rfl, rfl, rfl, rfl, rfl, rfl, rfl, rfl, rfl, trivial⟩ ?_
  clear hb hst hcl hf
  rintro ⟨i, s1, V1, f⟩ w3 ⟨hi, hb, hst, hcl, hf, hall⟩
  simp only at hi hb hst hcl hf hall ⊢
  refine FC.seq (FC.region ?_)
  refine FL.pur rfl rfl (p_lss rfl rfl rfl) ?_
  refine FL.nilK ?_
  refine FC.seq ?_
  refine FC.cond (decide ((i : Int) < (ps.length : Int))) rfl (fun hcc => FC.skip (thn_normal ?_)) (fun hcc => FC.exit ?_)
  rotate_left
  · have hge : ¬ (i : Int) < (ps.length : Int) := of_decide_eq_false hcc
    obtain rfl : i = ps.length := by omega
    exact thn_exit (thn_exit (blk_exit ⟨(), trivial, hf, hall⟩))
  have hlt : i < ps.length := by have := of_decide_eq_true hcc; omega
  obtain ⟨ad1, u1, e1, hadB1, hcu1, hru1⟩ := hc2 i hlt
  injection e1 with e1
  subst e1
  have hcu1' : w3.cell? (ad.add i) = some u1 := hf.cell hcu1 (by rw [add_block]; exact low _ hadB1)
  have hmem1 := mem_getD (d := ([] : List Int)) hlt
  have hlit := fun l hl => lit2 _ hmem1 l hl
  have etake : ps.take (i + 1) = ps.take i ++ [ps.getD i []] := by
    rw [List.take_add_one, List.getElem?_eq_getElem hlt, List.getD_eq_getElem?_getD, List.getElem?_eq_getElem hlt]
    rfl
  refine FC.seq ?_
  refine FC.block ?_
  refine FC.seq (FC.region ?_)
  refine FL.pur rfl rfl (p_indexA rfl rfl Try.underlying22 inf41_eq inf41_size (by omega) (by omega)) ?_
  refine FL.val _ _ rfl rfl (p_load rfl Try.underlying41 rfl hcu1') ?_
  refine FL.pur rfl rfl (p_assign rfl) ?_
  refine FL.nilK ?_
  refine FC.cut (σ := S × Lay) (fun x => [(0, .int .i64 m), (1, .slice A1 cs.length cap1), (2, .slice (some ad) ps.length cap2), (7, .pointer (some ⟨sb, 0, none⟩)), (8, .pointer (some ⟨fb, 0, none⟩)), (9, .func (.func 31) #[] #[.pointer (some ⟨fb, 0, none⟩), .pointer (some ⟨sb, 0, none⟩)]), (13, u1), (57, .slice (some ad) ps.length cap2), (58, .int .i64 ps.length), (59, .int .i64 i)]) (fun x w2 => Box w2 w.heap.size g0 x.1 x.2 fb sb f ∧ St (cs ++ ps.take i) (m + 1) (2 * (cs.length + i)) x.1 f ∧ x.1.clauses.length ≤ cs.length + i ∧ Fr (fun k => w.heap.size ≤ k) w w2 ∧ (Taut (ps.getD i []) ∨ Conf (cs ++ ps.take i) fun l => -l ∈ ps.getD i [])) ?_ ?_
  · cases f with
    | true =>
      refine FC.seq (FC.region ?_)
      refine FL.val _ _ rfl rfl (p_load rfl Try.underlying4 rfl hb.fc) ?_
      refine FL.pur rfl rfl (p_not rfl) ?_
      refine FL.pur rfl rfl (p_move rfl) ?_
      refine FL.off rfl rfl ?_
      refine FL.off rfl rfl ?_
      refine FL.off rfl rfl ?_
      refine FL.off rfl rfl ?_
      refine FL.pur rfl rfl (p_pick_f rfl rfl) ?_
      refine FL.nilK ?_
      refine FC.cond_f rfl (FC.skip ?_)
      exact ⟨(s1, V1), ⟨rfl, rfl, rfl, rfl, rfl, rfl, rfl, rfl, rfl, rfl, trivial⟩, hb, hst, hcl, hf, follows_of_conf (hst.2 rfl) _⟩
    | false =>
      obtain ⟨l1, l2, _, l4⟩ := follows_law (hst.1 rfl) hlit
      refine FC.seq (FC.region ?_)
      refine FL.val _ _ rfl rfl (p_load rfl Try.underlying4 rfl hb.fc) ?_
      refine FL.pur rfl rfl (p_not rfl) ?_
      refine FL.pur rfl rfl (p_move rfl) ?_
      refine FL.val _ _ rfl rfl (p_load rfl Try.underlying49 rfl hb.sc) ?_
      refine FL.pur rfl rfl (p_move rfl) ?_
      refine FL.call rfl rfl (p_call Try.func38 rfl rfl rfl) (follows_calls hb.srch (hst.1 rfl) ((hru1.fr hf low).mono hB) hlit (hll2 _ hmem1)) ?_
      rintro e_ w_ ⟨rfl, V2, h2, G2⟩
      refine ⟨_, rfl, ?_⟩
      refine FL.pur rfl rfl (p_not rfl) ?_
      refine FL.pur rfl rfl (p_pick_t rfl rfl) ?_
      refine FL.nilK ?_
      refine FC.cond (!(followsS (m + 1) s1 (ps.getD i [])).2) rfl (fun hcc => ?_) (fun hcc => FC.skip ?_)
      · refine FC.seq (FC.region ?_)
        refine FL.pur rfl rfl (p_assign rfl) ?_
        refine FL.nilK ?_
        refine FC.ret ?_
        repeat (first | with_reducible refine thn_ret ?_ | with_reducible refine blk_ret ?_ | with_reducible refine nog_ret ?_)
        have hF : Fr (fun k => w.heap.size ≤ k) w w_ := hf.trans G2.fr fun k hk => .inl (hb.srch.ge hk)
        refine ret1 Try.results16 rfl ⟨⟨false, rfl, ⟨fun e => (by cases e), fun e => ?_⟩⟩, hF.mono fun k hk => .inr hk⟩
        have := l2.2 (e.2.2.2.2.2 i hlt)
        rw [this] at hcc; cases hcc
      · have hT : (followsS (m + 1) s1 (ps.getD i [])).2 = true := by simpa using hcc
        exact ⟨(_, V2), ⟨rfl, rfl, rfl, rfl, rfl, rfl, rfl, rfl, rfl, rfl, trivial⟩, hb.goes h2 G2, ⟨fun _ => l1, fun e => (by cases e)⟩, by show (followsS _ _ _).1.clauses.length ≤ _; rw [l4]; exact hcl, hf.trans G2.fr fun k hk => .inl (hb.srch.ge hk), l2.1 hT⟩
  clear hb hst hcl hf
  rintro ⟨s2, V2⟩ w5 ⟨hb, hst, hcl, hf, hfo⟩
  simp only at hb hst hcl hf hfo ⊢
  have hput := put_calls (n := m + 1) (Φ := cs ++ ps.take i) (T := 2 * (cs.length + i)) hb hf.size ((hru1.fr hf low).mono hB) hlit (hll2 _ hmem1) (by omega) hst.1 (by omega) (by omega)
  refine FC.region ?_
  refine FL.pur rfl rfl (p_move rfl) ?_
  refine FL.pur rfl rfl (p_move rfl) ?_
  refine FL.call rfl rfl (p_call Try.func39 rfl rfl rfl) (clause_calls _ _) ?_
  rintro e_ w_ ⟨rfl, rfl⟩
  refine ⟨_, rfl, ?_⟩
  refine FL.call rfl rfl (p_callv (cap := [.pointer (some ⟨fb, 0, none⟩), .pointer (some ⟨sb, 0, none⟩)]) rfl Try.func31 rfl rfl rfl) hput ?_
  rintro e_ w4 ⟨rfl, s3, V3, f', hb4, hp4, hf4, hsub4⟩
  refine ⟨_, rfl, ?_⟩
  refine FL.nil ?_
  obtain ⟨st2, cl2⟩ := put_st hst hp4 (by omega) (by omega) hlit
  refine blk_normal (thn_normal ?_)
  refine FC.region ?_
  refine FL.pur rfl rfl (p_add rfl rfl ((wr (by omega) (by omega)).trans (show (i : Int) + 1 = ((i + 1 : Nat) : Int) by omega))) ?_
  refine FL.pur rfl rfl (p_move rfl) ?_
  refine FL.nil ?_
  refine ⟨(i + 1, s3, V3, f'), ⟨rfl, rfl, rfl, rfl, rfl, rfl, rfl, rfl, rfl, trivial⟩, ⟨hlt, hb4, ?_, by show s3.clauses.length ≤ cs.length + (i + 1); omega, hf.trans hf4 fun k hk => .inl ?_, fun k hk => ?_⟩, by show ps.length - (i + 1) < ps.length - i; omega⟩
  · show St (cs ++ ps.take (i + 1)) (m + 1) (2 * (cs.length + (i + 1))) s3 f'
    rw [etake, ← List.append_assoc, show 2 * (cs.length + (i + 1)) = 2 * (cs.length + i) + 2 by omega]
    exact st2
  · rcases hk with hk | hk
    · exact hb.srch.ge hk
    · rw [hk]; exact hfB
  · by_cases e : k = i
    · rw [e]; exact hfo
    · exact hall k (by simp only at hk; omega)
end
end Go.Proofs.Ytcahhbcehnbdkaa.Sv

/- Walks of Holds and what it calls. -/
namespace Go.Proofs.Ytcahhbcehnbdkaa.Sv
open Go.RowKit Go.Proofs.YtcahhbcehnbdkaaW.PrintWords Go.Proofs.YtcahhbcehnbdkaaW.PrintLast Go.Proofs.Ytcahhbcehnbdkaa.Eng

def isB (bs : List Bool) (l : Int) : Bool := if 0 < l ∧ l ≤ bs.length then bs.getD (l - 1).toNat false else if l < 0 ∧ -(bs.length : Int) ≤ l then !bs.getD (-l - 1).toNat false else false
/-- A row of truth values that is only read. -/
def BRow (w : World) (B : Nat) (v : Value) (bs : List Bool) : Prop :=
  ∃ A cap, v = .slice A bs.length cap ∧ ∀ i, i < bs.length → ∃ ad, A = some ad ∧ ad.block < B ∧ w.cell? (ad.add i) = some (.bool (bs.getD i false))
section
variable {w : World} {B mb : Nat}
theorem is_calls {v : Value} {bs : List Bool} (h : BRow w B v bs) (hm : w.cell? ⟨mb, 0, none⟩ = some v) (hl : bs.length < 4611686018427387904) (l : Int) (hl1 : -9223372036854775808 ≤ l) (hl2 : l < 9223372036854775808) :
    Calls Try.prog 27 #[.int .i64 l, .pointer (some ⟨mb, 0, none⟩)] w fun e w' => e = .returned (.bool (isB bs l)) ∧ w = w' := by
  obtain ⟨A, cap, rfl, hcell⟩ := h
  refine calls_of_FC (N := 35) (vs := [.int .i64 l, .pointer (some ⟨mb, 0, none⟩)]) Try.func27 rfl Try.ntmps27 (Nat.le_of_ble_eq_true rfl) ?_
  refine FC.seq (FC.region ?_)
  refine FL.pur rfl rfl (p_assign rfl) ?_
  refine FL.nilK ?_
  by_cases c1 : 0 < l ∧ l ≤ bs.length
  · obtain ⟨ad, rfl, _, hc⟩ := hcell (l - 1).toNat (by omega)
    refine FC.seq ?_
    refine FC.block ?_
    refine FC.seq (FC.region ?_)
    refine FL.pur rfl rfl (p_move rfl) ?_
    refine FL.pur rfl rfl (p_gtr rfl rfl (decide_eq_true c1.1)) ?_
    refine FL.pur rfl rfl (p_move rfl) ?_
    refine FL.pur rfl rfl (p_move rfl) ?_
    refine FL.val _ _ rfl rfl (p_load rfl Try.underlying23 rfl hm) ?_
    refine FL.pur rfl rfl (p_len rfl Try.underlying23) ?_
    refine FL.pur rfl rfl (p_leq rfl rfl (decide_eq_true c1.2)) ?_
    refine FL.pur rfl rfl (p_pick_t rfl rfl) ?_
    refine FL.pur rfl rfl (p_assign rfl) ?_
    refine FL.nilK ?_
    refine FC.cond_t rfl ?_
    refine FC.seq (FC.region ?_)
    refine FL.val _ _ rfl rfl (p_load rfl Try.underlying23 rfl hm) ?_
    refine FL.pur rfl rfl (p_move rfl) ?_
    refine FL.pur rfl rfl (p_sub rfl rfl (wr (by omega) (by omega))) ?_
    refine FL.pur rfl rfl (p_indexA rfl rfl Try.underlying23 inf4_eq inf4_size (by omega) (by omega)) ?_
    refine FL.val _ _ rfl rfl (p_load rfl Try.underlying4 rfl hc) ?_
    refine FL.pur rfl rfl (p_assign rfl) ?_
    refine FL.nilK ?_
    refine FC.ret ?_
    repeat (first | with_reducible refine thn_ret ?_ | with_reducible refine blk_ret ?_ | with_reducible refine nog_ret ?_)
    exact ret1 Try.results27 rfl ⟨by unfold isB; rw [if_pos c1], rfl⟩
  refine FC.seq ?_
  by_cases c2 : 0 < l
  · refine FC.block ?_
    refine FC.seq (FC.region ?_)
    refine FL.pur rfl rfl (p_move rfl) ?_
    refine FL.pur rfl rfl (p_gtr rfl rfl (decide_eq_true c2)) ?_
    refine FL.pur rfl rfl (p_move rfl) ?_
    refine FL.pur rfl rfl (p_move rfl) ?_
    refine FL.val _ _ rfl rfl (p_load rfl Try.underlying23 rfl hm) ?_
    refine FL.pur rfl rfl (p_len rfl Try.underlying23) ?_
    refine FL.pur rfl rfl (p_leq rfl rfl (decide_eq_false (by omega))) ?_
    refine FL.pur rfl rfl (p_pick_t rfl rfl) ?_
    refine FL.pur rfl rfl (p_assign rfl) ?_
    refine FL.nilK ?_
    refine FC.cond_f rfl ?_
    refine FC.seq (FC.region ?_)
    refine FL.pur rfl rfl (p_move rfl) ?_
    refine FL.pur rfl rfl (p_lss rfl rfl (decide_eq_false (by omega))) ?_
    refine FL.pur rfl rfl (p_move rfl) ?_
    refine FL.off rfl rfl ?_
    refine FL.off rfl rfl ?_
    refine FL.off rfl rfl ?_
    refine FL.off rfl rfl ?_
    refine FL.off rfl rfl ?_
    refine FL.pur rfl rfl (p_pick_f rfl rfl) ?_
    refine FL.pur rfl rfl (p_assign rfl) ?_
    refine FL.nilK ?_
    refine FC.cond_f rfl (FC.skip ?_)
    refine blk_normal (thn_normal ?_)
    refine FC.seq (FC.region ?_)
    refine FL.pur rfl rfl (p_assign rfl) ?_
    refine FL.nilK ?_
    refine FC.ret ?_
    repeat (first | with_reducible refine thn_ret ?_ | with_reducible refine blk_ret ?_ | with_reducible refine nog_ret ?_)
    exact ret1 Try.results27 rfl ⟨by unfold isB; rw [if_neg c1, if_neg (by omega)], rfl⟩
  by_cases c3 : l < 0 ∧ -(bs.length : Int) ≤ l
  · obtain ⟨ad, rfl, _, hc⟩ := hcell (-l - 1).toNat (by omega)
    refine FC.block ?_
    refine FC.seq (FC.region ?_)
    refine FL.pur rfl rfl (p_move rfl) ?_
    refine FL.pur rfl rfl (p_gtr rfl rfl (decide_eq_false c2)) ?_
    refine FL.pur rfl rfl (p_move rfl) ?_
    refine FL.off rfl rfl ?_
    refine FL.off rfl rfl ?_
    refine FL.off rfl rfl ?_
    refine FL.off rfl rfl ?_
    refine FL.pur rfl rfl (p_pick_f rfl rfl) ?_
    refine FL.pur rfl rfl (p_assign rfl) ?_
    refine FL.nilK ?_
    refine FC.cond_f rfl ?_
    refine FC.seq (FC.region ?_)
    refine FL.pur rfl rfl (p_move rfl) ?_
    refine FL.pur rfl rfl (p_lss rfl rfl (decide_eq_true c3.1)) ?_
    refine FL.pur rfl rfl (p_move rfl) ?_
    refine FL.pur rfl rfl (p_move rfl) ?_
    refine FL.val _ _ rfl rfl (p_load rfl Try.underlying23 rfl hm) ?_
    refine FL.pur rfl rfl (p_len rfl Try.underlying23) ?_
    refine FL.pur rfl rfl (p_neg rfl (wr (by omega) (by omega))) ?_
    refine FL.pur rfl rfl (p_geq rfl rfl (decide_eq_true c3.2)) ?_
    refine FL.pur rfl rfl (p_pick_t rfl rfl) ?_
    refine FL.pur rfl rfl (p_assign rfl) ?_
    refine FL.nilK ?_
    refine FC.cond_t rfl ?_
    refine FC.seq (FC.region ?_)
    refine FL.val _ _ rfl rfl (p_load rfl Try.underlying23 rfl hm) ?_
    refine FL.pur rfl rfl (p_move rfl) ?_
    refine FL.pur rfl rfl (p_neg rfl (wr (by omega) (by omega))) ?_
    refine FL.pur rfl rfl (p_sub rfl rfl (wr (by omega) (by omega))) ?_
    refine FL.pur rfl rfl (p_indexA rfl rfl Try.underlying23 inf4_eq inf4_size (by omega) (by omega)) ?_
    refine FL.val _ _ rfl rfl (p_load rfl Try.underlying4 rfl hc) ?_
    refine FL.pur rfl rfl (p_not rfl) ?_
    refine FL.pur rfl rfl (p_assign rfl) ?_
    refine FL.nilK ?_
    refine FC.ret ?_
    repeat (first | with_reducible refine thn_ret ?_ | with_reducible refine blk_ret ?_ | with_reducible refine nog_ret ?_)
    exact ret1 Try.results27 rfl ⟨by unfold isB; rw [if_neg c1, if_pos c3], rfl⟩
  by_cases c4 : l < 0
  · refine FC.block ?_
    refine FC.seq (FC.region ?_)
    refine FL.pur rfl rfl (p_move rfl) ?_
    refine FL.pur rfl rfl (p_gtr rfl rfl (decide_eq_false c2)) ?_
    refine FL.pur rfl rfl (p_move rfl) ?_
    refine FL.off rfl rfl ?_
    refine FL.off rfl rfl ?_
    refine FL.off rfl rfl ?_
    refine FL.off rfl rfl ?_
    refine FL.pur rfl rfl (p_pick_f rfl rfl) ?_
    refine FL.pur rfl rfl (p_assign rfl) ?_
    refine FL.nilK ?_
    refine FC.cond_f rfl ?_
    refine FC.seq (FC.region ?_)
    refine FL.pur rfl rfl (p_move rfl) ?_
    refine FL.pur rfl rfl (p_lss rfl rfl (decide_eq_true c4)) ?_
    refine FL.pur rfl rfl (p_move rfl) ?_
    refine FL.pur rfl rfl (p_move rfl) ?_
    refine FL.val _ _ rfl rfl (p_load rfl Try.underlying23 rfl hm) ?_
    refine FL.pur rfl rfl (p_len rfl Try.underlying23) ?_
    refine FL.pur rfl rfl (p_neg rfl (wr (by omega) (by omega))) ?_
    refine FL.pur rfl rfl (p_geq rfl rfl (decide_eq_false (by omega))) ?_
    refine FL.pur rfl rfl (p_pick_t rfl rfl) ?_
    refine FL.pur rfl rfl (p_assign rfl) ?_
    refine FL.nilK ?_
    refine FC.cond_f rfl (FC.skip ?_)
    refine blk_normal (thn_normal ?_)
    refine FC.seq (FC.region ?_)
    refine FL.pur rfl rfl (p_assign rfl) ?_
    refine FL.nilK ?_
    refine FC.ret ?_
    repeat (first | with_reducible refine thn_ret ?_ | with_reducible refine blk_ret ?_ | with_reducible refine nog_ret ?_)
    exact ret1 Try.results27 rfl ⟨by unfold isB; rw [if_neg c1, if_neg (c3)], rfl⟩
  · refine FC.block ?_
    refine FC.seq (FC.region ?_)
    refine FL.pur rfl rfl (p_move rfl) ?_
    refine FL.pur rfl rfl (p_gtr rfl rfl (decide_eq_false c2)) ?_
    refine FL.pur rfl rfl (p_move rfl) ?_
    refine FL.off rfl rfl ?_
    refine FL.off rfl rfl ?_
    refine FL.off rfl rfl ?_
    refine FL.off rfl rfl ?_
    refine FL.pur rfl rfl (p_pick_f rfl rfl) ?_
    refine FL.pur rfl rfl (p_assign rfl) ?_
    refine FL.nilK ?_
    refine FC.cond_f rfl ?_
    refine FC.seq (FC.region ?_)
    refine FL.pur rfl rfl (p_move rfl) ?_
    refine FL.pur rfl rfl (p_lss rfl rfl (decide_eq_false c4)) ?_
    refine FL.pur rfl rfl (p_move rfl) ?_
    refine FL.off rfl rfl ?_
    refine FL.off rfl rfl ?_
    refine FL.off rfl rfl ?_
    refine FL.off rfl rfl ?_
    refine FL.off rfl rfl ?_
    refine FL.pur rfl rfl (p_pick_f rfl rfl) ?_
    refine FL.pur rfl rfl (p_assign rfl) ?_
    refine FL.nilK ?_
    refine FC.cond_f rfl (FC.skip ?_)
    refine blk_normal (thn_normal ?_)
    refine FC.seq (FC.region ?_)
    refine FL.pur rfl rfl (p_assign rfl) ?_
    refine FL.nilK ?_
    refine FC.ret ?_
    repeat (first | with_reducible refine thn_ret ?_ | with_reducible refine blk_ret ?_ | with_reducible refine nog_ret ?_)
    exact ret1 Try.results27 rfl ⟨by unfold isB; rw [if_neg c1, if_neg (c3)], rfl⟩
def isV (mb : Nat) : Value := .func (.func 27) #[] #[.pointer (some ⟨mb, 0, none⟩)]
def Small64 (c : List Int) : Prop := ∀ l ∈ c, -9223372036854775808 ≤ l ∧ l < 9223372036854775808
theorem any_take' (p : Int → Bool) (c : List Int) (i : Nat) (hi : i < c.length) (h : (c.take i).any p = false) : (c.take (i + 1)).any p = p (g c i) := by
  rw [List.take_add_one, List.any_append, h, List.getElem?_eq_getElem hi, g, List.getD_eq_getElem?_getD, List.getElem?_eq_getElem hi]
  simp
theorem index1_calls {v u : Value} {c : List Int} {bs : List Bool} (h : Row w B v c) (hb : BRow w B u bs) (hm : w.cell? ⟨mb, 0, none⟩ = some u) (hl : c.length < 4611686018427387904) (hbl : bs.length < 4611686018427387904) (hs : Small64 c) :
    Calls Try.prog 44 #[v, isV mb] w fun e w' => (∃ i : Int, e = .returned (.int .i64 i) ∧ decide (0 ≤ i) = c.any (isB bs)) ∧ w = w' := by
  obtain ⟨A, cap, rfl, hcell⟩ := h
  refine calls_of_FC (N := 19) (vs := [.slice A c.length cap, isV mb]) Try.func44 rfl Try.ntmps44 (Nat.le_of_ble_eq_true rfl) ?_
  refine FC.seq (FC.region ?_)
  refine FL.pur rfl rfl (p_assign rfl) ?_
  refine FL.nilK ?_
  refine FC.cut (σ := Unit) (fun _ => []) (fun _ w2 => w = w2 ∧ c.any (isB bs) = false) ?_ ?_
  · refine FC.seq (FC.region ?_)
    refine FL.pur rfl rfl (p_move rfl) ?_
    refine FL.pur rfl rfl (p_len rfl Try.underlying41) ?_
    refine FL.pur rfl rfl (p_move rfl) ?_
    refine FL.nilK ?_
    refine FC.block ?_
    refine FC.loop (σ := Nat) (fun x => [(0, .slice A c.length cap), (1, isV mb), (7, .int .i64 c.length), (8, .int .i64 x)]) (fun x w2 => w = w2 ∧ x ≤ c.length ∧ (c.take x).any (isB bs) = false) (fun x => c.length - x) 0 ⟨rfl, Nat.zero_le _, rfl⟩ ⟨rfl, rfl, rfl, rfl, trivial⟩ ?_
    rintro i w2 ⟨rfl, hi, hn⟩
    refine FC.seq (FC.region ?_)
    refine FL.pur rfl rfl (p_lss rfl rfl rfl) ?_
    refine FL.nilK ?_
    refine FC.seq ?_
    refine FC.cond (decide ((i : Int) < (c.length : Int))) rfl (fun hcc => FC.skip (thn_normal ?_)) (fun hcc => FC.exit ?_)
    rotate_left
    · have hge : ¬ (i : Int) < (c.length : Int) := of_decide_eq_false hcc
      rw [List.take_of_length_le (by omega)] at hn
      exact thn_exit (thn_exit (blk_exit ⟨(), trivial, rfl, hn⟩))
    have hlt : i < c.length := by have := of_decide_eq_true hcc; omega
    obtain ⟨ad, rfl, _, hc0⟩ := hcell i hlt
    have hc1 : w.cell? (ad.add (i : Int).toNat) = some (.int .i64 (g c i)) := hc0
    have hsm := hs _ (rd_mem c i (by omega) (by omega))
    refine FC.seq ?_
    refine FC.block ?_
    refine FC.seq (FC.region ?_)
    refine FL.pur rfl rfl (p_move rfl) ?_
    refine FL.pur rfl rfl (p_assign rfl) ?_
    refine FL.nilK ?_
    refine FC.seq (FC.region ?_)
    refine FL.pur rfl rfl (p_move rfl) ?_
    refine FL.pur rfl rfl (p_move rfl) ?_
    refine FL.pur rfl rfl (p_move rfl) ?_
    refine FL.pur rfl rfl (p_indexA rfl rfl Try.underlying41 inf3_eq inf3_size (by omega) (by omega)) ?_
    refine FL.val _ _ rfl rfl (p_load rfl Try.underlying3 rfl hc1) ?_
    refine FL.call rfl rfl (p_callv (cap := [.pointer (some ⟨mb, 0, none⟩)]) rfl Try.func27 rfl rfl rfl) (is_calls hb hm hbl (g c i) hsm.1 hsm.2) ?_
    rintro e_ w_ ⟨rfl, rfl⟩
    refine ⟨_, rfl, ?_⟩
    refine FL.nilK ?_
    have hst := any_take' (isB bs) c i hlt hn
    refine FC.cond (isB bs (g c i)) rfl (fun hcc => ?_) (fun hcc => FC.skip ?_)
    · refine FC.seq (FC.region ?_)
      refine FL.pur rfl rfl (p_move rfl) ?_
      refine FL.pur rfl rfl (p_assign rfl) ?_
      refine FL.nilK ?_
      refine FC.ret ?_
      repeat (first | with_reducible refine thn_ret ?_ | with_reducible refine blk_ret ?_ | with_reducible refine nog_ret ?_)
      refine ret1 Try.results44 rfl ⟨⟨_, rfl, ?_⟩, rfl⟩
      have h1 : c.any (isB bs) = true := List.any_eq_true.2 ⟨g c i, rd_mem c i (by omega) (by omega), hcc⟩
      rw [h1]
      exact decide_eq_true (by omega)
    · rw [hcc] at hst
      refine blk_normal (thn_normal ?_)
      refine FC.region ?_
      refine FL.pur rfl rfl (p_add rfl rfl ((wr (by omega) (by omega)).trans (show (i : Int) + 1 = ((i + 1 : Nat) : Int) by omega))) ?_
      refine FL.pur rfl rfl (p_move rfl) ?_
      refine FL.nil ?_
      exact ⟨i + 1, ⟨rfl, rfl, rfl, rfl, trivial⟩, ⟨rfl, hlt, hst⟩, by show c.length - (i + 1) < c.length - i; omega⟩
  rintro - w2 ⟨rfl, hn⟩
  refine FC.seq (FC.region ?_)
  refine FL.pur rfl rfl (p_assign rfl) ?_
  refine FL.nilK ?_
  refine FC.ret ?_
  repeat (first | with_reducible refine thn_ret ?_ | with_reducible refine blk_ret ?_ | with_reducible refine nog_ret ?_)
  exact ret1 Try.results44 rfl ⟨⟨-1, rfl, by rw [hn]; rfl⟩, rfl⟩
theorem contains1_calls {v u : Value} {c : List Int} {bs : List Bool} (h : Row w B v c) (hb : BRow w B u bs) (hm : w.cell? ⟨mb, 0, none⟩ = some u) (hl : c.length < 4611686018427387904) (hbl : bs.length < 4611686018427387904) (hs : Small64 c) :
    Calls Try.prog 28 #[v, isV mb] w fun e w' => e = .returned (.bool (c.any (isB bs))) ∧ w = w' := by
  refine calls_of_FC (N := 9) (vs := [v, isV mb]) Try.func28 rfl Try.ntmps28 (Nat.le_of_ble_eq_true rfl) ?_
  refine FC.seq (FC.region ?_)
  refine FL.pur rfl rfl (p_assign rfl) ?_
  refine FL.nilK ?_
  refine FC.seq (FC.region ?_)
  refine FL.pur rfl rfl (p_move rfl) ?_
  refine FL.pur rfl rfl (p_move rfl) ?_
  refine FL.call rfl rfl (p_call Try.func44 rfl rfl rfl) (index1_calls h hb hm hl hbl hs) ?_
  rintro e_ w_ ⟨⟨i, rfl, hi⟩, rfl⟩
  refine ⟨_, rfl, ?_⟩
  refine FL.pur rfl rfl (p_geq rfl rfl hi) ?_
  refine FL.pur rfl rfl (p_assign rfl) ?_
  refine FL.nilK ?_
  refine FC.ret ?_
  repeat (first | with_reducible refine thn_ret ?_ | with_reducible refine blk_ret ?_ | with_reducible refine nog_ret ?_)
  exact ret1 Try.results28 rfl ⟨rfl, rfl⟩
theorem p_box1 {P : Program} {ρ : Env} {dst : Option Tmp} {ty : TypeId} {pos : String} {af : Array Edge} {gd : Option (Nat × Bool)} {t : TypeId} {x : Operand} {v : Value} {w : World} (hx : ev ρ x = some v) (hv : v.cells = #[v]) :
    Val P ρ ⟨dst, .box t x, ty, pos, af, gd⟩ w (.pointer (some ⟨w.heap.size, 0, none⟩)) (w.alloc (.cells #[v] t)) := fun a ha => by
  simp [execOp, Instr.box, newVar, newRow, newObj, ha.ev hx, hv, Sem.run, World.alloc_eq]
theorem BRow.fr {w w' : World} {v : Value} {d : List Bool} {F : Nat → Prop} (h : BRow w B v d) (hf : Fr F w w') (hb : ∀ k, k < B → ¬ F k) : BRow w' B v d := by
  obtain ⟨A, cap, rfl, h1⟩ := h
  refine ⟨A, cap, rfl, fun i hi => ?_⟩
  obtain ⟨ad, e1, e2, e3⟩ := h1 i hi
  exact ⟨ad, e1, e2, hf.cell e3 (by rw [add_block]; exact hb _ e2)⟩
theorem holds_calls {v u : Value} {cs : List (List Int)} {bs : List Bool} (h : Rws w B v cs) (hb : BRow w B u bs) (hl : cs.length < 4611686018427387904) (hll : ∀ c ∈ cs, c.length < 4611686018427387904 ∧ Small64 c) (hbl : bs.length < 4611686018427387904) :
    Calls Try.prog 14 #[v, u] w fun e w' => e = .returned (.bool (cs.all fun c => c.any (isB bs))) ∧ Fr (fun _ => False) w w' := by
  have h' := h
  obtain ⟨A, cap, rfl, _⟩ := h
  have hb' := hb
  obtain ⟨A2, cap2, rfl, _⟩ := hb
  refine calls_of_FC (N := 20) (vs := [.slice A cs.length cap, .slice A2 bs.length cap2]) Try.func14 rfl Try.ntmps14 (Nat.le_of_ble_eq_true rfl) ?_
  refine FC.seq (FC.region ?_)
  refine FL.val _ _ rfl rfl (p_box1 rfl rfl) ?_
  refine FL.pur rfl rfl (p_assign rfl) ?_
  refine FL.nilK ?_
  refine FC.seq (FC.region ?_)
  refine FL.pur rfl rfl (p_func rfl) ?_
  refine FL.pur rfl rfl (p_assign rfl) ?_
  refine FL.nilK ?_
  obtain ⟨w1, hw1⟩ : ∃ w1, w1 = w.alloc (.cells #[.slice A2 bs.length cap2] 23) := ⟨_, rfl⟩
  have f1 : Fr (fun _ => False) w w1 := by rw [hw1]; exact (Fr.refl _ _).alloc _
  have hm : w1.cell? ⟨w.heap.size, 0, none⟩ = some (.slice A2 bs.length cap2) := by rw [hw1]; exact (cell_of_row _ _ 0 _ _ _ (heap_alloc_new w _)).trans rfl
  have h1 := h'.fr f1 fun _ _ h => h
  have hb1 := hb'.fr f1 fun _ _ h => h
  rw [← hw1]
  obtain ⟨A', cap', e, hcell⟩ := h1
  injection e with e1 _ e3
  subst e1 e3
  refine FC.cut (σ := Unit) (fun _ => []) (fun _ w2 => w1 = w2 ∧ (cs.all fun c => c.any (isB bs)) = true) ?_ ?_
  · refine FC.seq (FC.region ?_)
    refine FL.pur rfl rfl (p_move rfl) ?_
    refine FL.pur rfl rfl (p_len rfl Try.underlying22) ?_
    refine FL.pur rfl rfl (p_move rfl) ?_
    refine FL.nilK ?_
    refine FC.block ?_
    refine FC.loop (σ := Nat) (fun x => [(5, isV w.heap.size), (9, .slice A cs.length cap), (10, .int .i64 cs.length), (11, .int .i64 x)]) (fun x w2 => w1 = w2 ∧ x ≤ cs.length ∧ ((cs.take x).all fun c => c.any (isB bs)) = true) (fun x => cs.length - x) 0 ⟨rfl, Nat.zero_le _, rfl⟩ ⟨rfl, rfl, rfl, rfl, trivial⟩ ?_
    rintro i w2 ⟨rfl, hi, hn⟩
    refine FC.seq (FC.region ?_)
    refine FL.pur rfl rfl (p_lss rfl rfl rfl) ?_
    refine FL.nilK ?_
    refine FC.seq ?_
    refine FC.cond (decide ((i : Int) < (cs.length : Int))) rfl (fun hcc => FC.skip (thn_normal ?_)) (fun hcc => FC.exit ?_)
    rotate_left
    · have hge : ¬ (i : Int) < (cs.length : Int) := of_decide_eq_false hcc
      rw [List.take_of_length_le (by omega)] at hn
      exact thn_exit (thn_exit (blk_exit ⟨(), trivial, rfl, hn⟩))
    have hlt : i < cs.length := by have := of_decide_eq_true hcc; omega
    obtain ⟨ad, u, rfl, _, hc0, hrow⟩ := hcell i hlt
    have hc1 : w1.cell? (ad.add i) = some u := hc0
    have hst := all_take (fun c => c.any (isB bs)) [] cs i hlt hn
    have hq := hll _ (mem_getD (d := []) hlt)
    refine FC.seq ?_
    refine FC.block ?_
    refine FC.seq (FC.region ?_)
    refine FL.pur rfl rfl (p_indexA rfl rfl Try.underlying22 inf41_eq inf41_size (by omega) (by omega)) ?_
    refine FL.val _ _ rfl rfl (p_load rfl Try.underlying41 rfl hc1) ?_
    refine FL.pur rfl rfl (p_assign rfl) ?_
    refine FL.nilK ?_
    refine FC.seq (FC.region ?_)
    refine FL.pur rfl rfl (p_move rfl) ?_
    refine FL.pur rfl rfl (p_move rfl) ?_
    refine FL.call rfl rfl (p_call Try.func28 rfl rfl rfl) (contains1_calls hrow hb1 hm hq.1 hbl hq.2) ?_
    rintro e_ w_ ⟨rfl, rfl⟩
    refine ⟨_, rfl, ?_⟩
    refine FL.pur rfl rfl (p_not rfl) ?_
    refine FL.nilK ?_
    refine FC.cond (!((cs.getD i []).any (isB bs))) rfl (fun hcc => ?_) (fun hcc => FC.skip ?_)
    · refine FC.seq (FC.region ?_)
      refine FL.pur rfl rfl (p_assign rfl) ?_
      refine FL.nilK ?_
      refine FC.ret ?_
      repeat (first | with_reducible refine thn_ret ?_ | with_reducible refine blk_ret ?_ | with_reducible refine nog_ret ?_)
      refine ret1 Try.results14 rfl ⟨?_, f1⟩
      have hno : (cs.all fun c => c.any (isB bs)) = false := by
        rw [Bool.eq_false_iff]
        intro hall
        have := List.all_eq_true.1 hall _ (mem_getD (d := []) hlt)
        rw [this] at hcc; cases hcc
      rw [hno]
    · have hcc : (cs.getD i []).any (isB bs) = true := by simpa using hcc
      refine blk_normal (thn_normal ?_)
      refine FC.region ?_
      refine FL.pur rfl rfl (p_add rfl rfl ((wr (by omega) (by omega)).trans (show (i : Int) + 1 = ((i + 1 : Nat) : Int) by omega))) ?_
      refine FL.pur rfl rfl (p_move rfl) ?_
      refine FL.nil ?_
      exact ⟨i + 1, ⟨rfl, rfl, rfl, rfl, trivial⟩, ⟨rfl, hlt, hst.trans hcc⟩, by show cs.length - (i + 1) < cs.length - i; omega⟩
  rintro - w2 ⟨rfl, hn⟩
  refine FC.seq (FC.region ?_)
  refine FL.pur rfl rfl (p_assign rfl) ?_
  refine FL.nilK ?_
  refine FC.ret ?_
  repeat (first | with_reducible refine thn_ret ?_ | with_reducible refine blk_ret ?_ | with_reducible refine nog_ret ?_)
  exact ret1 Try.results14 rfl ⟨by rw [hn], f1⟩
end
end Go.Proofs.Ytcahhbcehnbdkaa.Sv

/- The reference's set of values and its unit clauses as plain laws. -/
namespace Go.Proofs.Ytcahhbcehnbdkaa.Sv
open Go.RowKit Go.Proofs.YtcahhbcehnbdkaaW.PrintWords

/-- What a literal is worth by a list of values. -/
def sg (vs : List Int) (l : Int) : Int := if l < 0 then -(rd vs (-l)) else rd vs l
def pt (vs : List Int) (l : Int) : List Int := vs.set (av l).toNat (if l < 0 then -1 else 1)
section
variable {m : Nat} {vs : List Int}
structure Vo (m : Nat) (vs : List Int) : Prop where
  len : vs.length = m + 1
  small : Small vs
theorem rd_small (h : Vo m vs) {i : Int} (h0 : 0 ≤ i) (h1 : i < m + 1) : -1 ≤ rd vs i ∧ rd vs i ≤ 1 := h.small _ (rd_mem vs i h0 (by have := h.len; omega))
theorem sg_small (h : Vo m vs) {l : Int} (hl : Lit (m + 1) l) : -1 ≤ sg vs l ∧ sg vs l ≤ 1 := by
  obtain ⟨h1, h2⟩ := hl
  unfold sg
  split
  · have := rd_small h (i := -l) (by omega) (by omega); omega
  · exact rd_small h (by omega) (by omega)
theorem sg_neg {l : Int} (h : l ≠ 0) : sg vs (-l) = -sg vs l := by
  unfold sg
  by_cases c : l < 0
  · rw [if_neg (by omega), if_pos c]; simp
  · rw [if_pos (by omega), if_neg c]; simp
theorem Vo.pt (h : Vo m vs) (l : Int) : Vo m (pt vs l) := ⟨by simp [Sv.pt, h.len], small_set h.small _ l⟩
theorem sg_pt_self (h : Vo m vs) {l : Int} (hl : Lit (m + 1) l) : sg (pt vs l) l = 1 := by
  have ha := av_lt hl
  have := h.len
  unfold sg pt
  by_cases c : l < 0
  · rw [if_pos c, if_pos c]
    have e : (-l).toNat = (av l).toNat := by unfold av; omega
    unfold rd; rw [e, getD_set_self (by omega)]; rfl
  · rw [if_neg c, if_neg c]
    have e : l.toNat = (av l).toNat := by unfold av; omega
    unfold rd; rw [e, getD_set_self (by omega)]
theorem sg_pt_other {l x : Int} (h : (av l).toNat ≠ (av x).toNat) : sg (pt vs l) x = sg vs x := by
  unfold sg pt
  by_cases c : x < 0
  · rw [if_pos c, if_pos c]
    have e : (-x).toNat = (av x).toNat := by unfold av; omega
    unfold rd; rw [e, getD_set_other h]
  · rw [if_neg c, if_neg c]
    have e : x.toNat = (av x).toNat := by unfold av; omega
    unfold rd; rw [e, getD_set_other h]
theorem sg_zero (h : Vo m vs) {l : Int} (hl : Lit (m + 1) l) (h0 : sg vs l = 0) : ∃ h : (av l).toNat < vs.length, vs[(av l).toNat] = 0 := by
  have hlen := h.len
  have ha := av_lt hl
  obtain ⟨h1, h2⟩ := hl
  refine ⟨by omega, ?_⟩
  unfold sg at h0
  by_cases c : l < 0
  · rw [if_pos c, rd_of_lt _ _ (by omega) (by omega)] at h0
    have e : (av l).toNat = (-l).toNat := by unfold av; omega
    simp only [e]; omega
  · rw [if_neg c, rd_of_lt _ _ (by omega) (by omega)] at h0
    have e : (av l).toNat = l.toNat := by unfold av; omega
    simp only [e]; exact h0
theorem zeros_pt (h : Vo m vs) {l : Int} (hl : Lit (m + 1) l) (h0 : sg vs l = 0) : zeros (pt vs l) + 1 = zeros vs := by
  obtain ⟨h1, h2⟩ := sg_zero h hl h0
  exact zeros_set_ne h1 h2 (by split <;> omega)

/-! ### unit -/
def unitL (vs : List Int) : List Int → Int → Int × Bool
  | [], o => (o, o != 0)
  | l :: r, o => if sg vs l = 1 then (0, true) else if sg vs l = 0 ∧ o ≠ 0 ∧ o ≠ l then (0, true) else unitL vs r (if sg vs l = 0 then l else o)
theorem unit_no (h : Vo m vs) : ∀ (r : List Int) (o u : Int), (∀ l ∈ r, Lit (m + 1) l ∧ l ≠ 0) → unitL vs r o = (u, false) → o = 0 ∧ ∀ x ∈ r, sg vs x = -1
  | [], o, u, _, e => by
    simp only [unitL, Prod.mk.injEq] at e
    refine ⟨?_, by simp⟩
    have := e.2
    simpa using this
  | l :: r, o, u, hc, e => by
    unfold unitL at e
    have hs := sg_small h (hc l (by simp)).1
    split at e
    · cases e
    · split at e
      · cases e
      · rename_i c1 c2
        obtain ⟨a, b⟩ := unit_no h r _ u (fun x hx => hc x (by simp [hx])) e
        by_cases c3 : sg vs l = 0
        · rw [if_pos c3] at a
          exact absurd a (hc l (by simp)).2
        · rw [if_neg c3] at a
          refine ⟨a, fun x hx => ?_⟩
          rcases List.mem_cons.1 hx with rfl | hx
          · omega
          · exact b x hx
theorem unit_one (h : Vo m vs) : ∀ (r : List Int) (o u : Int), (∀ l ∈ r, Lit (m + 1) l ∧ l ≠ 0) → unitL vs r o = (u, true) → u ≠ 0 → (o ≠ 0 → u = o) ∧ (u = o ∨ (u ∈ r ∧ sg vs u = 0)) ∧ ∀ x ∈ r, x ≠ u → sg vs x = -1
  | [], o, u, _, e, hu => by
    simp only [unitL, Prod.mk.injEq] at e
    exact ⟨fun _ => e.1.symm, .inl e.1.symm, by simp⟩
  | l :: r, o, u, hc, e, hu => by
    unfold unitL at e
    have hs := sg_small h (hc l (by simp)).1
    split at e
    · injection e with e1 _; exact absurd e1.symm hu
    · split at e
      · injection e with e1 _; exact absurd e1.symm hu
      · rename_i c1 c2
        obtain ⟨a, b, d⟩ := unit_one h r _ u (fun x hx => hc x (by simp [hx])) e hu
        by_cases c3 : sg vs l = 0
        · rw [if_pos c3] at a b
          have e1 := a (hc l (by simp)).2
          refine ⟨fun ho => ?_, .inr ⟨by simp [e1], by rw [e1]; exact c3⟩, fun x hx hne => ?_⟩
          · rw [e1]
            exact Classical.byContradiction fun hh => c2 ⟨c3, ho, fun hh' => hh hh'.symm⟩
          · rcases List.mem_cons.1 hx with rfl | hx
            · exact absurd e1.symm hne
            · exact d x hx hne
        · rw [if_neg c3] at a b
          refine ⟨a, b.imp id fun ⟨h1, h2⟩ => ⟨by simp [h1], h2⟩, fun x hx hne => ?_⟩
          rcases List.mem_cons.1 hx with rfl | hx
          · omega
          · exact d x hx hne
theorem unit_sat (h : Vo m vs) : ∀ (r : List Int) (o : Int), (∀ l ∈ r, Lit (m + 1) l ∧ l ≠ 0) → unitL vs r o = (0, true) → ∀ l, l ≠ 0 → (o = 0 ∨ o = l) → (∀ x ∈ r, x ≠ l → sg vs x = -1) → l ∈ r ∧ sg vs l = 1
  | [], o, _, e, l, hl, ho, _ => by
    simp only [unitL, Prod.mk.injEq] at e
    rw [e.1] at e
    simp at e
  | a :: r, o, hc, e, l, hl, ho, hx => by
    unfold unitL at e
    have hs := sg_small h (hc a (by simp)).1
    have hal : a ≠ l → sg vs a = -1 := hx a (by simp)
    split at e
    · rename_i c1
      by_cases c : a = l
      · subst c; exact ⟨by simp, c1⟩
      · have := hal c; omega
    · split at e
      · rename_i c1 c2
        obtain ⟨d1, d2, d3⟩ := c2
        by_cases c : a = l
        · subst c
          rcases ho with ho | ho
          · exact absurd ho d2
          · exact absurd ho d3
        · have := hal c; omega
      · rename_i c1 c2
        have ho' : (if sg vs a = 0 then a else o) = 0 ∨ (if sg vs a = 0 then a else o) = l := by
          split
          · rename_i c3
            right
            exact Classical.byContradiction fun hh => by have := hal hh; omega
          · exact ho
        obtain ⟨p, q⟩ := unit_sat h r _ (fun x hx => hc x (by simp [hx])) e l hl ho' (fun x hx' hne => hx x (by simp [hx']) hne)
        exact ⟨by simp [p], q⟩

/-! ### Follows -/
structure Fo (m : Nat) (Φ : List (List Int)) (c : List Int) (vs : List Int) : Prop where
  vo : Vo m vs
  has : ∀ l ∈ c, sg vs (-l) = 1
  sound : ∀ x, Lit (m + 1) x → x ≠ 0 → sg vs x = 1 → D Φ (fun l => -l ∈ c) x
section
variable {Φ : List (List Int)} {c : List Int}
theorem Fo.conf (h : Fo m Φ c vs) (hΦ : ∀ d ∈ Φ, ∀ l ∈ d, Lit (m + 1) l ∧ l ≠ 0) {d : List Int} (hd : d ∈ Φ) (hf : ∀ x ∈ d, sg vs x = -1) : Conf Φ fun l => -l ∈ c :=
  ⟨d, hd, fun x hx => h.sound _ (hΦ d hd x hx).1.neg (by have := (hΦ d hd x hx).2; omega) (by rw [sg_neg (hΦ d hd x hx).2, hf x hx]; rfl)⟩
theorem Fo.put (h : Fo m Φ c vs) (hΦ : ∀ d ∈ Φ, ∀ l ∈ d, Lit (m + 1) l ∧ l ≠ 0) (hcc : ∀ l ∈ c, Lit (m + 1) l ∧ l ≠ 0) {d : List Int} (hd : d ∈ Φ) {u : Int} (hu : u ∈ d) (h0 : sg vs u = 0) (hf : ∀ x ∈ d, x ≠ u → sg vs x = -1) : Fo m Φ c (pt vs u) where
  vo := h.vo.pt u
  has := fun l hl => by
    have h1 := h.has l hl
    refine (sg_pt_other fun e => ?_).trans h1
    rcases av_inj e with e | e
    · rw [e] at h0; omega
    · have := sg_neg (vs := vs) (l := l) (hcc l hl).2
      rw [e, Int.neg_neg] at h0
      omega
  sound := fun x hx hz h1 => by
    by_cases e : (av u).toNat = (av x).toNat
    · rcases av_inj e with e | e
      · subst e
        exact .unit hd hu fun y hy hne => h.sound _ (hΦ d hd y hy).1.neg (by have := (hΦ d hd y hy).2; omega) (by rw [sg_neg (hΦ d hd y hy).2, hf y hy hne]; rfl)
      · have e2 : x = -u := by omega
        have := sg_neg (vs := pt vs u) (l := u) (hΦ d hd u hu).2
        rw [sg_pt_self h.vo (hΦ d hd u hu).1, ← e2] at this
        omega
    · rw [sg_pt_other e] at h1
      exact h.sound x hx hz h1
theorem Fo.closed (h : Fo m Φ c vs) (hΦ : ∀ d ∈ Φ, ∀ l ∈ d, Lit (m + 1) l ∧ l ≠ 0) (hcc : ∀ l ∈ c, Lit (m + 1) l ∧ l ≠ 0) (hu : ∀ d ∈ Φ, unitL vs d 0 = (0, true)) : ¬ Conf Φ fun l => -l ∈ c := by
  have main : ∀ x, D Φ (fun l => -l ∈ c) x → x ≠ 0 ∧ Lit (m + 1) x ∧ sg vs x = 1 := fun x hx => by
    induction hx with
    | @base l h1 =>
      have h1 : -l ∈ c := h1
      have := h.has _ h1
      rw [Int.neg_neg] at this
      have h2 := hcc _ h1
      exact ⟨by omega, by have := h2.1.neg; rwa [Int.neg_neg] at this, this⟩
    | @unit d l h1 h2 _ ih =>
      obtain ⟨hL, hz⟩ := hΦ d h1 l h2
      refine ⟨hz, hL, (unit_sat h.vo d 0 (hΦ d h1) (hu d h1) l hz (.inl rfl) fun x hx hne => ?_).2⟩
      have h3 := (ih x hx hne).2.2
      rw [sg_neg (hΦ d h1 x hx).2] at h3
      omega
  rintro ⟨d, hd, h1⟩
  have hf : ∀ x ∈ d, sg vs x = -1 := fun x hx => by
    have h3 := (main _ (h1 x hx)).2.2
    rw [sg_neg (hΦ d hd x hx).2] at h3
    omega
  by_cases e : ∃ l, l ∈ d
  · obtain ⟨l, hl⟩ := e
    have := (unit_sat h.vo d 0 (hΦ d hd) (hu d hd) l (hΦ d hd l hl).2 (.inl rfl) fun x hx _ => hf x hx).2
    have := hf l hl
    omega
  · have e2 : d = [] := List.eq_nil_iff_forall_not_mem.2 fun l hl => e ⟨l, hl⟩
    have := hu d hd
    rw [e2] at this
    simp [unitL] at this
/-- The negations of the first literals are set. -/
structure Fa (m : Nat) (c : List Int) (i : Nat) (vs : List Int) : Prop where
  vo : Vo m vs
  iff : ∀ x, Lit (m + 1) x → x ≠ 0 → (sg vs x = 1 ↔ -x ∈ c.take i)
theorem vo_new (m : Nat) : Vo m (List.replicate (m + 1) 0) := ⟨by simp, fun x hx => by rw [List.eq_of_mem_replicate hx]; omega⟩
end
end
/-! ### Many -/
def sumL (cs : List (List Int)) : Nat := (cs.map List.length).sum
def manyV (cs : List (List Int)) (lim : Nat) : Bool := decide (lim < cs.length) || decide (lim < sumL cs)
section
variable {cs : List (List Int)}
theorem many_no {lim : Nat} (h : manyV cs lim = false) : cs.length ≤ lim ∧ ∀ c ∈ cs, c.length ≤ lim := by
  simp only [manyV, Bool.or_eq_false_iff, decide_eq_false_iff_not] at h
  refine ⟨by omega, fun c hc => ?_⟩
  have : c.length ≤ sumL cs := by
    unfold sumL
    obtain ⟨q, hq, rfl⟩ := List.mem_iff_getElem.1 hc
    have := le_sum cs q
    rwa [List.getD_eq_getElem?_getD, List.getElem?_eq_getElem hq] at this
  omega
end
end Go.Proofs.Ytcahhbcehnbdkaa.Sv

/- Walks of the reference: sign, put, unit, Follows. -/
namespace Go.Proofs.Ytcahhbcehnbdkaa.Sv
open Go.RowKit Go.Proofs.YtcahhbcehnbdkaaW.PrintWords Go.Proofs.YtcahhbcehnbdkaaW.PrintLast Go.Proofs.Ytcahhbcehnbdkaa.Eng

/-- A block of whole numbers. -/
def Vec (w : World) (b : Nat) (vs : List Int) : Prop := ∃ cells, w.heap[b]? = some (.cells cells 3 (0, 0)) ∧ cells.toList = nums .i64 vs
section
variable {w w' : World} {B b m : Nat} {vs : List Int}
theorem Vec.at (h : Vec w b vs) (i : Nat) (hi : i < vs.length) : w.cell? ⟨b, i, none⟩ = some (.int .i64 (g vs i)) := by
  obtain ⟨cells, h1, h2⟩ := h
  rw [cell_of_row w b i _ _ _ h1, ← Array.getElem?_toList, h2]
  simp [nums, g, hi]
theorem Vec.unfr (h : Vec w b vs) (i : Nat) : w.frozen? ⟨b, i, none⟩ = false := by
  obtain ⟨cells, h1, h2⟩ := h
  exact blk_frozen h1 i
theorem Vec.lt (h : Vec w b vs) : b < w.heap.size := by
  obtain ⟨cells, h1, h2⟩ := h
  exact (Array.getElem?_eq_some_iff.1 h1).1
theorem Vec.set (h : Vec w b vs) (i : Nat) (x : Int) : Vec (w.setCell ⟨b, i, none⟩ (.int .i64 x)) b (vs.set i x) := by
  obtain ⟨cells, h1, h2⟩ := h
  refine ⟨_, setCell_heap_self h1 i _, ?_⟩
  rw [Array.toList_setIfInBounds, h2]
  simp [nums, List.map_set]
theorem Vec.fr {F : Nat → Prop} (h : Vec w b vs) (hf : Fr F w w') (hn : ¬ F b) : Vec w' b vs := by
  have hl := h.lt
  obtain ⟨cells, h1, h2⟩ := h
  exact ⟨cells, (hf.block b hl hn).trans h1, h2⟩
theorem Vec.row (h : Vec w b vs) (hb : b < B) (cap : Nat) : Row w B (.slice (some ⟨b, 0, none⟩) vs.length cap) vs :=
  ⟨_, cap, rfl, fun i hi => ⟨_, rfl, hb, by rw [addr_add, Nat.zero_add]; exact h.at i hi⟩⟩
theorem sign_calls {v : Value} (hr : Row w B v vs) (hm : m ≤ 5000) (h : Vo m vs) {l : Int} (hL : Lit (m + 1) l) (hz : l ≠ 0) : Calls Try.prog 49 #[v, .int .i64 l] w fun e w' => e = .returned (.int .i64 (sg vs l)) ∧ w = w' := by
  have hlen := h.len
  obtain ⟨A, cap, rfl, hcell⟩ := hr
  obtain ⟨hL1, hL2⟩ := hL
  refine calls_of_FC (N := 17) (vs := [.slice A vs.length cap, .int .i64 l]) Try.func49 rfl Try.ntmps49 (Nat.le_of_ble_eq_true rfl) ?_
  refine FC.seq (FC.region ?_)
  refine FL.pur rfl rfl (p_assign rfl) ?_
  refine FL.nilK ?_
  refine FC.seq ?_
  refine FC.seq (FC.region ?_)
  refine FL.pur rfl rfl (p_move rfl) ?_
  refine FL.pur rfl rfl (p_gtr rfl rfl rfl) ?_
  refine FL.nilK ?_
  refine FC.cond (decide (0 < l)) rfl (fun hc => ?_) (fun hc => FC.skip (thn_normal ?_))
  · have hc := of_decide_eq_true hc
    obtain ⟨ad, rfl, _, hce⟩ := hcell l.toNat (by omega)
    refine FC.seq (FC.region ?_)
    refine FL.pur rfl rfl (p_move rfl) ?_
    refine FL.pur rfl rfl (p_move rfl) ?_
    refine FL.pur rfl rfl (p_indexA rfl rfl Try.underlying41 inf3_eq inf3_size (by omega) (by omega)) ?_
    refine FL.val _ _ rfl rfl (p_load rfl Try.underlying3 rfl hce) ?_
    refine FL.pur rfl rfl (p_assign rfl) ?_
    refine FL.nilK ?_
    refine FC.ret ?_
    repeat (first | with_reducible refine thn_ret ?_ | with_reducible refine blk_ret ?_ | with_reducible refine nog_ret ?_)
    exact ret1 Try.results49 rfl ⟨by unfold sg; rw [if_neg (by omega)]; rfl, rfl⟩
  · have hc := of_decide_eq_false hc
    obtain ⟨ad, rfl, _, hce⟩ := hcell (-l).toNat (by omega)
    have hs := rd_small h (i := -l) (by omega) (by omega)
    have hce : w.cell? (ad.add (-l).toNat) = some (.int .i64 (rd vs (-l))) := hce
    refine FC.seq (FC.region ?_)
    refine FL.pur rfl rfl (p_move rfl) ?_
    refine FL.pur rfl rfl (p_move rfl) ?_
    refine FL.pur rfl rfl (p_neg rfl (wr (by omega) (by omega))) ?_
    refine FL.pur rfl rfl (p_indexA rfl rfl Try.underlying41 inf3_eq inf3_size (by omega) (by omega)) ?_
    refine FL.val _ _ rfl rfl (p_load rfl Try.underlying3 rfl hce) ?_
    refine FL.pur rfl rfl (p_neg rfl (wr (by omega) (by omega))) ?_
    refine FL.pur rfl rfl (p_assign rfl) ?_
    refine FL.nilK ?_
    refine FC.ret ?_
    repeat (first | with_reducible refine thn_ret ?_ | with_reducible refine blk_ret ?_ | with_reducible refine nog_ret ?_)
    exact ret1 Try.results49 rfl ⟨by unfold sg; rw [if_pos (by omega)], rfl⟩
theorem putv_calls {cap : Nat} (hv : Vec w b vs) (hm : m ≤ 5000) (h : Vo m vs) {l : Int} (hL : Lit (m + 1) l) (hz : l ≠ 0) : Calls Try.prog 50 #[.slice (some ⟨b, 0, none⟩) vs.length cap, .int .i64 l] w fun e w' => e = .returned (.tuple #[]) ∧ Vec w' b (pt vs l) ∧ Fr (fun k => k = b) w w' := by
  have hlen := h.len
  obtain ⟨hL1, hL2⟩ := hL
  have hf : ∀ (i : Nat) (x : Value), Fr (fun k => k = b) w (w.setCell ⟨b, i, none⟩ x) := fun i x => ⟨rfl, rfl, rfl, by rw [setCell_size]; exact Nat.le_refl _, fun k _ hk => Below.heap_setCell w _ x k hk⟩
  refine calls_of_FC (N := 13) (vs := [.slice (some ⟨b, 0, none⟩) vs.length cap, .int .i64 l]) Try.func50 rfl Try.ntmps50 (Nat.le_of_ble_eq_true rfl) ?_
  refine FC.seq (FC.region ?_)
  refine FL.pur rfl rfl (p_move rfl) ?_
  refine FL.pur rfl rfl (p_gtr rfl rfl rfl) ?_
  refine FL.nilK ?_
  refine FC.cond (decide (0 < l)) rfl (fun hc => ?_) (fun hc => ?_)
  · have hc := of_decide_eq_true hc
    refine FC.region ?_
    refine FL.pur rfl rfl (p_move rfl) ?_
    refine FL.pur rfl rfl (p_move rfl) ?_
    refine FL.pur rfl rfl (idx41 rfl rfl (by omega) (by omega)) ?_
    refine FL.sto _ rfl (st3 rfl rfl rfl (hv.at l.toNat (by omega)) (hv.unfr _)) ?_
    refine FL.nil ?_
    refine end0 Try.results50 ⟨rfl, ?_, hf _ _⟩
    unfold pt
    rw [if_neg (by omega), show (av l).toNat = l.toNat by unfold av; omega]
    exact hv.set _ _
  · have hc := of_decide_eq_false hc
    refine FC.region ?_
    refine FL.pur rfl rfl (p_move rfl) ?_
    refine FL.pur rfl rfl (p_move rfl) ?_
    refine FL.pur rfl rfl (p_neg rfl (wr (by omega) (by omega))) ?_
    refine FL.pur rfl rfl (idx41 rfl rfl (by omega) (by omega)) ?_
    refine FL.sto _ rfl (st3 rfl rfl rfl (hv.at (-l).toNat (by omega)) (hv.unfr _)) ?_
    refine FL.nil ?_
    refine end0 Try.results50 ⟨rfl, ?_, hf _ _⟩
    unfold pt
    rw [if_pos (by omega), show (av l).toNat = (-l).toNat by unfold av; omega]
    exact hv.set _ _
theorem unitL_drop (c : List Int) (i : Nat) (h : i < c.length) (o : Int) : unitL vs (c.drop i) o = if sg vs (g c i) = 1 then (0, true) else if sg vs (g c i) = 0 ∧ o ≠ 0 ∧ o ≠ g c i then (0, true) else unitL vs (c.drop (i + 1)) (if sg vs (g c i) = 0 then g c i else o) := by
  rw [drop_g c i h]
  rfl
set_option maxHeartbeats 2000000 in
theorem unit_calls {v u : Value} {c : List Int} (hv : Row w B v vs) (hr : Row w B u c) (hm : m ≤ 5000) (h : Vo m vs) (hc : ∀ l ∈ c, Lit (m + 1) l ∧ l ≠ 0) (hl : c.length < 4611686018427387904) :
    Calls Try.prog 51 #[v, u] w fun e w' => e = .returned (.tuple #[.int .i64 (unitL vs c 0).1, .bool (unitL vs c 0).2]) ∧ w = w' := by
  obtain ⟨A, cap, rfl, hcell⟩ := hr
  refine calls_of_FC (N := 57) (vs := [v, .slice A c.length cap]) Try.func51 rfl Try.ntmps51 (Nat.le_of_ble_eq_true rfl) ?_
  refine FC.seq (FC.region ?_)
  refine FL.pur rfl rfl (p_assign rfl) ?_
  refine FL.pur rfl rfl (p_assign rfl) ?_
  refine FL.nilK ?_
  refine FC.seq (FC.region ?_)
  refine FL.pur rfl rfl (p_assign rfl) ?_
  refine FL.nilK ?_
  refine FC.cut (σ := Int) (fun o => [(6, .int .i64 o)]) (fun o w2 => w = w2 ∧ unitL vs c 0 = (o, o != 0)) ?_ ?_
  · refine FC.seq (FC.region ?_)
    refine FL.pur rfl rfl (p_assign rfl) ?_
    refine FL.nilK ?_
    refine FC.block ?_
    refine FC.loop (σ := Nat × Int) (fun x => [(0, v), (1, .slice A c.length cap), (6, .int .i64 x.2), (7, .int .i64 x.1)]) (fun x w2 => w = w2 ∧ x.1 ≤ c.length ∧ unitL vs (c.drop x.1) x.2 = unitL vs c 0) (fun x => c.length - x.1) (0, 0) ⟨rfl, Nat.zero_le _, by rw [List.drop_zero]⟩ ⟨rfl, rfl, rfl, rfl, trivial⟩ ?_
    rintro ⟨i, o⟩ w2 ⟨rfl, hi, hn⟩
    simp only at hi hn ⊢
    refine FC.seq ?_
    refine FC.seq (FC.region ?_)
    refine FL.pur rfl rfl (p_move rfl) ?_
    refine FL.pur rfl rfl (p_move rfl) ?_
    refine FL.pur rfl rfl (p_len rfl Try.underlying41) ?_
    refine FL.pur rfl rfl (p_lss rfl rfl rfl) ?_
    refine FL.nilK ?_
    refine FC.cond (decide ((i : Int) < (c.length : Int))) rfl (fun hcc => FC.skip (thn_normal ?_)) (fun hcc => FC.exit ?_)
    rotate_left
    · have hge : ¬ (i : Int) < (c.length : Int) := of_decide_eq_false hcc
      rw [List.drop_eq_nil_of_le (by omega)] at hn
      exact thn_exit (thn_exit (blk_exit ⟨o, ⟨rfl, trivial⟩, rfl, hn.symm⟩))
    have hlt : i < c.length := by have := of_decide_eq_true hcc; omega
    obtain ⟨ad, rfl, _, hce⟩ := hcell i hlt
    have hce : w.cell? (ad.add (i : Int).toNat) = some (.int .i64 (g c i)) := hce
    obtain ⟨hL, hz⟩ := hc (g c i) (rd_mem c i (by omega) (by omega))
    have ks := sign_calls hv hm h hL hz
    rw [unitL_drop c i hlt] at hn
    refine FC.seq ?_
    refine FC.block ?_
    refine FC.block ?_
    by_cases c1 : sg vs (g c i) = 1
    · rw [if_pos c1] at hn
      refine FC.seq (FC.region ?_)
      refine FL.pur rfl rfl (p_move rfl) ?_
      refine FL.pur rfl rfl (p_move rfl) ?_
      refine FL.pur rfl rfl (p_move rfl) ?_
      refine FL.pur rfl rfl (p_indexA rfl rfl Try.underlying41 inf3_eq inf3_size (by omega) (by omega)) ?_
      refine FL.val _ _ rfl rfl (p_load rfl Try.underlying3 rfl hce) ?_
      refine FL.call rfl rfl (p_call Try.func49 rfl rfl rfl) (ks) ?_
      rintro e_ w_ ⟨rfl, rfl⟩
      refine ⟨_, rfl, ?_⟩
      refine FL.pur rfl rfl (p_eql rfl rfl (decide_eq_true c1)) ?_
      refine FL.pur rfl rfl (p_assign rfl) ?_
      refine FL.nilK ?_
      refine FC.cond_t rfl ?_
      refine FC.seq (FC.region ?_)
      refine FL.pur rfl rfl (p_assign rfl) ?_
      refine FL.pur rfl rfl (p_assign rfl) ?_
      refine FL.nilK ?_
      refine FC.ret ?_
      repeat (first | with_reducible refine thn_ret ?_ | with_reducible refine blk_ret ?_ | with_reducible refine nog_ret ?_)
      exact ret2 Try.results51 rfl rfl ⟨by rw [← hn], rfl⟩
    rw [if_neg c1] at hn
    refine FC.seq (FC.region ?_)
    refine FL.pur rfl rfl (p_move rfl) ?_
    refine FL.pur rfl rfl (p_move rfl) ?_
    refine FL.pur rfl rfl (p_move rfl) ?_
    refine FL.pur rfl rfl (p_indexA rfl rfl Try.underlying41 inf3_eq inf3_size (by omega) (by omega)) ?_
    refine FL.val _ _ rfl rfl (p_load rfl Try.underlying3 rfl hce) ?_
    refine FL.call rfl rfl (p_call Try.func49 rfl rfl rfl) (ks) ?_
    rintro e_ w_ ⟨rfl, rfl⟩
    refine ⟨_, rfl, ?_⟩
    refine FL.pur rfl rfl (p_eql rfl rfl (decide_eq_false c1)) ?_
    refine FL.pur rfl rfl (p_assign rfl) ?_
    refine FL.nilK ?_
    refine FC.cond_f rfl ?_
    by_cases c2 : sg vs (g c i) = 0
    rotate_left
    · rw [if_neg (fun hh => c2 hh.1), if_neg c2] at hn
      refine FC.seq (FC.region ?_)
      refine FL.pur rfl rfl (p_move rfl) ?_
      refine FL.pur rfl rfl (p_move rfl) ?_
      refine FL.pur rfl rfl (p_move rfl) ?_
      refine FL.pur rfl rfl (p_indexA rfl rfl Try.underlying41 inf3_eq inf3_size (by omega) (by omega)) ?_
      refine FL.val _ _ rfl rfl (p_load rfl Try.underlying3 rfl hce) ?_
      refine FL.call rfl rfl (p_call Try.func49 rfl rfl rfl) (ks) ?_
      rintro e_ w_ ⟨rfl, rfl⟩
      refine ⟨_, rfl, ?_⟩
      refine FL.pur rfl rfl (p_eql rfl rfl (decide_eq_false c2)) ?_
      refine FL.pur rfl rfl (p_move rfl) ?_
      refine FL.off rfl rfl ?_
      refine FL.off rfl rfl ?_
      refine FL.pur rfl rfl (p_pick_f rfl rfl) ?_
      refine FL.pur rfl rfl (p_move rfl) ?_
      refine FL.off rfl rfl ?_
      refine FL.off rfl rfl ?_
      refine FL.off rfl rfl ?_
      refine FL.off rfl rfl ?_
      refine FL.off rfl rfl ?_
      refine FL.off rfl rfl ?_
      refine FL.pur rfl rfl (p_pick_f rfl rfl) ?_
      refine FL.pur rfl rfl (p_assign rfl) ?_
      refine FL.nilK ?_
      refine FC.cond_f rfl ?_
      refine FC.seq (FC.region ?_)
      refine FL.pur rfl rfl (p_move rfl) ?_
      refine FL.pur rfl rfl (p_move rfl) ?_
      refine FL.pur rfl rfl (p_move rfl) ?_
      refine FL.pur rfl rfl (p_indexA rfl rfl Try.underlying41 inf3_eq inf3_size (by omega) (by omega)) ?_
      refine FL.val _ _ rfl rfl (p_load rfl Try.underlying3 rfl hce) ?_
      refine FL.call rfl rfl (p_call Try.func49 rfl rfl rfl) (ks) ?_
      rintro e_ w_ ⟨rfl, rfl⟩
      refine ⟨_, rfl, ?_⟩
      refine FL.pur rfl rfl (p_eql rfl rfl (decide_eq_false c2)) ?_
      refine FL.pur rfl rfl (p_assign rfl) ?_
      refine FL.nilK ?_
      refine FC.cond_f rfl (FC.skip ?_)
      refine blk_normal (blk_normal (thn_normal ?_))
      refine FC.region ?_
      refine FL.pur rfl rfl (p_move rfl) ?_
      refine FL.pur rfl rfl (p_add rfl rfl ((wr (by omega) (by omega)).trans (show (i : Int) + 1 = ((i + 1 : Nat) : Int) by omega))) ?_
      refine FL.pur rfl rfl (p_assign rfl) ?_
      refine FL.nil ?_
      exact ⟨(i + 1, o), ⟨rfl, rfl, rfl, rfl, trivial⟩, ⟨rfl, hlt, hn⟩, by show c.length - (i + 1) < c.length - i; omega⟩
    have fin : (sg vs (g c i) = 0 ∧ o ≠ 0 ∧ o ≠ g c i) ∨ ((o = 0 ∨ o = g c i) ∧ unitL vs (c.drop (i + 1)) (g c i) = unitL vs c 0) := by
      by_cases c3 : o ≠ 0 ∧ o ≠ g c i
      · exact .inl ⟨c2, c3⟩
      · rw [if_neg (fun hh => c3 hh.2), if_pos c2] at hn
        exact .inr ⟨by omega, hn⟩
    rcases fin with c3 | ⟨c3, hn⟩
    · rw [if_pos c3] at hn
      refine FC.seq (FC.region ?_)
      refine FL.pur rfl rfl (p_move rfl) ?_
      refine FL.pur rfl rfl (p_move rfl) ?_
      refine FL.pur rfl rfl (p_move rfl) ?_
      refine FL.pur rfl rfl (p_indexA rfl rfl Try.underlying41 inf3_eq inf3_size (by omega) (by omega)) ?_
      refine FL.val _ _ rfl rfl (p_load rfl Try.underlying3 rfl hce) ?_
      refine FL.call rfl rfl (p_call Try.func49 rfl rfl rfl) (ks) ?_
      rintro e_ w_ ⟨rfl, rfl⟩
      refine ⟨_, rfl, ?_⟩
      refine FL.pur rfl rfl (p_eql rfl rfl (decide_eq_true c2)) ?_
      refine FL.pur rfl rfl (p_move rfl) ?_
      refine FL.pur rfl rfl (p_move rfl) ?_
      refine FL.pur rfl rfl (p_neq rfl rfl (show _ = !true by simp [c3.2.1])) ?_
      refine FL.pur rfl rfl (p_pick_t rfl rfl) ?_
      refine FL.pur rfl rfl (p_move rfl) ?_
      refine FL.pur rfl rfl (p_move rfl) ?_
      refine FL.pur rfl rfl (p_move rfl) ?_
      refine FL.pur rfl rfl (p_move rfl) ?_
      refine FL.pur rfl rfl (p_indexA rfl rfl Try.underlying41 inf3_eq inf3_size (by omega) (by omega)) ?_
      refine FL.val _ _ rfl rfl (p_load rfl Try.underlying3 rfl hce) ?_
      refine FL.pur rfl rfl (p_neq rfl rfl (show _ = !true by simp [c3.2.2])) ?_
      refine FL.pur rfl rfl (p_pick_t rfl rfl) ?_
      refine FL.pur rfl rfl (p_assign rfl) ?_
      refine FL.nilK ?_
      refine FC.cond_t rfl ?_
      refine FC.seq (FC.region ?_)
      refine FL.pur rfl rfl (p_assign rfl) ?_
      refine FL.pur rfl rfl (p_assign rfl) ?_
      refine FL.nilK ?_
      refine FC.ret ?_
      repeat (first | with_reducible refine thn_ret ?_ | with_reducible refine blk_ret ?_ | with_reducible refine nog_ret ?_)
      exact ret2 Try.results51 rfl rfl ⟨by rw [← hn], rfl⟩
    by_cases c4 : o = 0
    · refine FC.seq (FC.region ?_)
      refine FL.pur rfl rfl (p_move rfl) ?_
      refine FL.pur rfl rfl (p_move rfl) ?_
      refine FL.pur rfl rfl (p_move rfl) ?_
      refine FL.pur rfl rfl (p_indexA rfl rfl Try.underlying41 inf3_eq inf3_size (by omega) (by omega)) ?_
      refine FL.val _ _ rfl rfl (p_load rfl Try.underlying3 rfl hce) ?_
      refine FL.call rfl rfl (p_call Try.func49 rfl rfl rfl) (ks) ?_
      rintro e_ w_ ⟨rfl, rfl⟩
      refine ⟨_, rfl, ?_⟩
      refine FL.pur rfl rfl (p_eql rfl rfl (decide_eq_true c2)) ?_
      refine FL.pur rfl rfl (p_move rfl) ?_
      refine FL.pur rfl rfl (p_move rfl) ?_
      refine FL.pur rfl rfl (p_neq rfl rfl (show _ = !false by simp [c4])) ?_
      refine FL.pur rfl rfl (p_pick_t rfl rfl) ?_
      refine FL.pur rfl rfl (p_move rfl) ?_
      refine FL.off rfl rfl ?_
      refine FL.off rfl rfl ?_
      refine FL.off rfl rfl ?_
      refine FL.off rfl rfl ?_
      refine FL.off rfl rfl ?_
      refine FL.off rfl rfl ?_
      refine FL.pur rfl rfl (p_pick_f rfl rfl) ?_
      refine FL.pur rfl rfl (p_assign rfl) ?_
      refine FL.nilK ?_
      refine FC.cond_f rfl ?_
      refine FC.seq (FC.region ?_)
      refine FL.pur rfl rfl (p_move rfl) ?_
      refine FL.pur rfl rfl (p_move rfl) ?_
      refine FL.pur rfl rfl (p_move rfl) ?_
      refine FL.pur rfl rfl (p_indexA rfl rfl Try.underlying41 inf3_eq inf3_size (by omega) (by omega)) ?_
      refine FL.val _ _ rfl rfl (p_load rfl Try.underlying3 rfl hce) ?_
      refine FL.call rfl rfl (p_call Try.func49 rfl rfl rfl) (ks) ?_
      rintro e_ w_ ⟨rfl, rfl⟩
      refine ⟨_, rfl, ?_⟩
      refine FL.pur rfl rfl (p_eql rfl rfl (decide_eq_true c2)) ?_
      refine FL.pur rfl rfl (p_assign rfl) ?_
      refine FL.nilK ?_
      refine FC.cond_t rfl ?_
      refine FC.region ?_
      refine FL.pur rfl rfl (p_move rfl) ?_
      refine FL.pur rfl rfl (p_move rfl) ?_
      refine FL.pur rfl rfl (p_indexA rfl rfl Try.underlying41 inf3_eq inf3_size (by omega) (by omega)) ?_
      refine FL.val _ _ rfl rfl (p_load rfl Try.underlying3 rfl hce) ?_
      refine FL.pur rfl rfl (p_assign rfl) ?_
      refine FL.nil ?_
      refine blk_normal (blk_normal (thn_normal ?_))
      refine FC.region ?_
      refine FL.pur rfl rfl (p_move rfl) ?_
      refine FL.pur rfl rfl (p_add rfl rfl ((wr (by omega) (by omega)).trans (show (i : Int) + 1 = ((i + 1 : Nat) : Int) by omega))) ?_
      refine FL.pur rfl rfl (p_assign rfl) ?_
      refine FL.nil ?_
      exact ⟨(i + 1, g c i), ⟨rfl, rfl, rfl, rfl, trivial⟩, ⟨rfl, hlt, hn⟩, by show c.length - (i + 1) < c.length - i; omega⟩
    · have c5 : o = g c i := c3.resolve_left c4
      refine FC.seq (FC.region ?_)
      refine FL.pur rfl rfl (p_move rfl) ?_
      refine FL.pur rfl rfl (p_move rfl) ?_
      refine FL.pur rfl rfl (p_move rfl) ?_
      refine FL.pur rfl rfl (p_indexA rfl rfl Try.underlying41 inf3_eq inf3_size (by omega) (by omega)) ?_
      refine FL.val _ _ rfl rfl (p_load rfl Try.underlying3 rfl hce) ?_
      refine FL.call rfl rfl (p_call Try.func49 rfl rfl rfl) (ks) ?_
      rintro e_ w_ ⟨rfl, rfl⟩
      refine ⟨_, rfl, ?_⟩
      refine FL.pur rfl rfl (p_eql rfl rfl (decide_eq_true c2)) ?_
      refine FL.pur rfl rfl (p_move rfl) ?_
      refine FL.pur rfl rfl (p_move rfl) ?_
      refine FL.pur rfl rfl (p_neq rfl rfl (show _ = !true by simp [c4])) ?_
      refine FL.pur rfl rfl (p_pick_t rfl rfl) ?_
      refine FL.pur rfl rfl (p_move rfl) ?_
      refine FL.pur rfl rfl (p_move rfl) ?_
      refine FL.pur rfl rfl (p_move rfl) ?_
      refine FL.pur rfl rfl (p_move rfl) ?_
      refine FL.pur rfl rfl (p_indexA rfl rfl Try.underlying41 inf3_eq inf3_size (by omega) (by omega)) ?_
      refine FL.val _ _ rfl rfl (p_load rfl Try.underlying3 rfl hce) ?_
      refine FL.pur rfl rfl (p_neq rfl rfl (show _ = !false by simp [c5])) ?_
      refine FL.pur rfl rfl (p_pick_t rfl rfl) ?_
      refine FL.pur rfl rfl (p_assign rfl) ?_
      refine FL.nilK ?_
      refine FC.cond_f rfl ?_
      refine FC.seq (FC.region ?_)
      refine FL.pur rfl rfl (p_move rfl) ?_
      refine FL.pur rfl rfl (p_move rfl) ?_
      refine FL.pur rfl rfl (p_move rfl) ?_
      refine FL.pur rfl rfl (p_indexA rfl rfl Try.underlying41 inf3_eq inf3_size (by omega) (by omega)) ?_
      refine FL.val _ _ rfl rfl (p_load rfl Try.underlying3 rfl hce) ?_
      refine FL.call rfl rfl (p_call Try.func49 rfl rfl rfl) (ks) ?_
      rintro e_ w_ ⟨rfl, rfl⟩
      refine ⟨_, rfl, ?_⟩
      refine FL.pur rfl rfl (p_eql rfl rfl (decide_eq_true c2)) ?_
      refine FL.pur rfl rfl (p_assign rfl) ?_
      refine FL.nilK ?_
      refine FC.cond_t rfl ?_
      refine FC.region ?_
      refine FL.pur rfl rfl (p_move rfl) ?_
      refine FL.pur rfl rfl (p_move rfl) ?_
      refine FL.pur rfl rfl (p_indexA rfl rfl Try.underlying41 inf3_eq inf3_size (by omega) (by omega)) ?_
      refine FL.val _ _ rfl rfl (p_load rfl Try.underlying3 rfl hce) ?_
      refine FL.pur rfl rfl (p_assign rfl) ?_
      refine FL.nil ?_
      refine blk_normal (blk_normal (thn_normal ?_))
      refine FC.region ?_
      refine FL.pur rfl rfl (p_move rfl) ?_
      refine FL.pur rfl rfl (p_add rfl rfl ((wr (by omega) (by omega)).trans (show (i : Int) + 1 = ((i + 1 : Nat) : Int) by omega))) ?_
      refine FL.pur rfl rfl (p_assign rfl) ?_
      refine FL.nil ?_
      exact ⟨(i + 1, g c i), ⟨rfl, rfl, rfl, rfl, trivial⟩, ⟨rfl, hlt, hn⟩, by show c.length - (i + 1) < c.length - i; omega⟩
  rintro o w2 ⟨rfl, hn⟩
  refine FC.seq (FC.region ?_)
  refine FL.pur rfl rfl (p_move rfl) ?_
  refine FL.pur rfl rfl (p_move rfl) ?_
  refine FL.pur rfl rfl (p_neq rfl rfl (show decide (o = 0) = !(o != 0) from (Bool.not_not _).symm)) ?_
  refine FL.pur rfl rfl (p_assign rfl) ?_
  refine FL.pur rfl rfl (p_assign rfl) ?_
  refine FL.nilK ?_
  refine FC.ret ?_
  repeat (first | with_reducible refine thn_ret ?_ | with_reducible refine blk_ret ?_ | with_reducible refine nog_ret ?_)
  exact ret2 Try.results51 rfl rfl ⟨by rw [hn], rfl⟩
end
end Go.Proofs.Ytcahhbcehnbdkaa.Sv

/- Walks of the reference: Follows. -/
namespace Go.Proofs.Ytcahhbcehnbdkaa.Sv
open Go.RowKit Go.Proofs.YtcahhbcehnbdkaaW.PrintWords Go.Proofs.YtcahhbcehnbdkaaW.PrintLast Go.Proofs.Ytcahhbcehnbdkaa.Eng
section
variable {w w' : World} {B m : Nat} {vs : List Int} {Φ : List (List Int)} {c : List Int}
theorem vec_made (w : World) (m : Nat) : Vec (w.alloc (.cells (madeCells #[.int .i64 0] (m + 1)) 3)) w.heap.size (List.replicate (m + 1) 0) :=
  ⟨_, heap_alloc_new w _, by rw [toList_madeCells_one]; simp [nums]⟩
theorem Fa.new (m : Nat) (c : List Int) : Fa m c 0 (List.replicate (m + 1) 0) := ⟨vo_new m, fun x _ _ => by
  have h0 : ∀ i : Int, rd (List.replicate (m + 1) 0) i = 0 := fun i => by
    unfold rd
    rw [List.getD_eq_getElem?_getD, List.getElem?_replicate]
    split <;> rfl
  have : sg (List.replicate (m + 1) 0) x = 0 := by unfold sg; split <;> simp [h0]
  rw [this]; simp⟩
theorem Fa.step {i : Nat} (hF : Fa m c i vs) (hcc : ∀ l ∈ c, Lit (m + 1) l ∧ l ≠ 0) (hil : i < c.length) (c1 : sg vs (g c i) ≠ 1) : Fa m c (i + 1) (pt vs (-(g c i))) := ⟨hF.vo.pt _, fun x hx hxz => by
  obtain ⟨hL, hz⟩ := hcc (g c i) (rd_mem c i (by omega) (by omega))
  have et : c.take (i + 1) = c.take i ++ [g c i] := by
    rw [List.take_add_one, List.getElem?_eq_getElem hil]
    simp [g, List.getElem?_eq_getElem hil]
  rw [et, List.mem_append, List.mem_singleton]
  by_cases e : (av (-(g c i))).toNat = (av x).toNat
  · rcases av_inj e with e | e
    · subst e
      rw [sg_pt_self hF.vo hL.neg]
      simp
    · have e2 : x = g c i := by omega
      subst e2
      have h3 := sg_pt_self hF.vo hL.neg
      rw [sg_neg hz] at h3
      constructor
      · intro h4; omega
      · rintro (h4 | h4)
        · exact absurd ((hF.iff _ hL hz).2 h4) c1
        · omega
  · rw [sg_pt_other e, hF.iff x hx hxz]
    constructor
    · exact .inl
    · rintro (h4 | h4)
      · exact h4
      · exact absurd (by rw [av_neg, ← h4, av_neg]) e⟩
theorem Fa.fo (hF : Fa m c c.length vs) (hcc : ∀ l ∈ c, Lit (m + 1) l ∧ l ≠ 0) : Fo m Φ c vs ∧ ¬ Taut c := by
  have hiff : ∀ x, Lit (m + 1) x → x ≠ 0 → (sg vs x = 1 ↔ -x ∈ c) := fun x hx hz => by rw [hF.iff x hx hz, List.take_of_length_le (Nat.le_refl _)]
  have hF' : Fo m Φ c vs := ⟨hF.vo, fun l hl => (hiff _ (hcc l hl).1.neg (by have := (hcc l hl).2; omega)).2 (by rwa [Int.neg_neg]), fun x hx hz h1 => .base ((hiff x hx hz).1 h1)⟩
  refine ⟨hF', fun ⟨l, h1, h2⟩ => ?_⟩
  have e1 := hF'.has l h1
  have e2 := hF'.has _ h2
  rw [Int.neg_neg] at e2
  rw [sg_neg (hcc l h1).2] at e1
  omega
/-- What Follows answers. -/
def FolR (Φ : List (List Int)) (c : List Int) (w : World) (e : Ending) (w' : World) : Prop := (∃ b : Bool, e = .returned (.bool b) ∧ (b = true ↔ Taut c ∨ Conf Φ fun l => -l ∈ c)) ∧ Fr (fun _ => False) w w'
set_option maxHeartbeats 4000000 in
theorem reffollows_calls {v u : Value} (h1 : Rws w B v Φ) (h2 : Row w B u c) (hB : B ≤ w.heap.size) (hm : m ≤ 5000) (hΦ : ∀ d ∈ Φ, ∀ l ∈ d, Lit (m + 1) l ∧ l ≠ 0) (hlc : ∀ l ∈ c, Lit (m + 1) l ∧ l ≠ 0) (hn : Φ.length < 4611686018427387904) (hl : ∀ d ∈ Φ, d.length < 4611686018427387904) (hcl : c.length < 4611686018427387904) :
    Calls Try.prog 40 #[.int .i64 m, v, u] w (FolR Φ c w) := by
  have h1' := h1
  have h2' := h2
  obtain ⟨A1, cap1, rfl, hc1⟩ := h1
  obtain ⟨A2, cap2, rfl, hc2⟩ := h2
  refine calls_of_FC (N := 59) (vs := [.int .i64 m, .slice A1 Φ.length cap1, .slice A2 c.length cap2]) Try.func40 rfl Try.ntmps40 (Nat.le_of_ble_eq_true rfl) ?_
  refine FC.seq (FC.region ?_)
  refine FL.pur rfl rfl (p_assign rfl) ?_
  refine FL.nilK ?_
  refine FC.seq (FC.region ?_)
  refine FL.pur rfl rfl (p_move rfl) ?_
  refine FL.pur rfl rfl (p_add rfl rfl ((wr (by omega) (by omega)).trans (show (m : Int) + 1 = ((m + 1 : Nat) : Int) by omega))) ?_
  refine FL.val _ _ rfl rfl (p_make rfl Try.underlying41 i41 rfl (by omega) (by omega)) ?_
  refine FL.pur rfl rfl (p_assign rfl) ?_
  refine FL.nilK ?_
  obtain ⟨b, hb⟩ : ∃ b, b = w.heap.size := ⟨_, rfl⟩
  obtain ⟨w1, hw1⟩ : ∃ w1, w1 = w.alloc (.cells (madeCells #[.int .i64 0] (m + 1)) 3) := ⟨_, rfl⟩
  have hv1 : Vec w1 b (List.replicate (m + 1) 0) := by rw [hw1, hb]; exact vec_made w m
  have f1 : Fr (fun _ => False) w w1 := by rw [hw1]; exact (Fr.refl _ w).alloc _
  rw [← hw1, ← hb]
  have nb : ∀ k, k < B → ¬ (k = b) := fun k hk e => by omega
  refine FC.cut (σ := List Int) (fun vs => [(1, .slice A1 Φ.length cap1), (7, .slice (some ⟨b, 0, none⟩) (m + 1) (m + 1))]) (fun vs w2 => Vec w2 b vs ∧ Fr (fun _ => False) w w2 ∧ Fa m c c.length vs) ?_ ?_
  · refine FC.seq (FC.region ?_)
    refine FL.pur rfl rfl (p_assign rfl) ?_
    refine FL.nilK ?_
    refine FC.block ?_
    refine FC.loop (σ := Nat × List Int) (fun x => [(1, .slice A1 Φ.length cap1), (2, .slice A2 c.length cap2), (7, .slice (some ⟨b, 0, none⟩) (m + 1) (m + 1)), (8, .int .i64 x.1)]) (fun x w2 => Vec w2 b x.2 ∧ Fr (fun _ => False) w w2 ∧ x.1 ≤ c.length ∧ Fa m c x.1 x.2) (fun x => c.length - x.1) (0, List.replicate (m + 1) 0) ⟨hv1, f1, Nat.zero_le _, Fa.new m c⟩ ⟨rfl, rfl, rfl, rfl, trivial⟩ ?_
    rintro ⟨i, vs⟩ w2 ⟨hv, hf, hi, hF⟩
    simp only at hv hf hi hF ⊢
    refine FC.seq ?_
    refine FC.seq (FC.region ?_)
    refine FL.pur rfl rfl (p_move rfl) ?_
    refine FL.pur rfl rfl (p_move rfl) ?_
    refine FL.pur rfl rfl (p_len rfl Try.underlying41) ?_
    refine FL.pur rfl rfl (p_lss rfl rfl rfl) ?_
    refine FL.nilK ?_
    refine FC.cond (decide ((i : Int) < (c.length : Int))) rfl (fun hcc => FC.skip (thn_normal ?_)) (fun hcc => FC.exit ?_)
    rotate_left
    · have hge : ¬ (i : Int) < (c.length : Int) := of_decide_eq_false hcc
      have e : i = c.length := by omega
      subst e
      exact thn_exit (thn_exit (blk_exit ⟨vs, ⟨rfl, rfl, trivial⟩, hv, hf, hF⟩))
    have hlt : i < c.length := by have := of_decide_eq_true hcc; omega
    obtain ⟨ad, rfl, hadB, hce⟩ := hc2 i hlt
    have hce : w2.cell? (ad.add (i : Int).toNat) = some (.int .i64 (g c i)) := hf.cell hce fun h => h
    obtain ⟨hL, hz⟩ := hlc (g c i) (rd_mem c i (by omega) (by omega))
    have hLn := hL.neg
    have hzn : -(g c i) ≠ 0 := by omega
    obtain ⟨hL1, hL2⟩ := hL
    have hvl := hF.vo.len
    have ks := sign_calls (hv.row hv.lt (m + 1)) hm hF.vo ⟨hL1, hL2⟩ hz
    have kp := putv_calls (cap := m + 1) hv hm hF.vo hLn hzn
    rw [hvl] at ks kp
    refine FC.seq ?_
    refine FC.block ?_
    refine FC.seq ?_
    refine FC.seq (FC.region ?_)
    refine FL.pur rfl rfl (p_move rfl) ?_
    refine FL.pur rfl rfl (p_move rfl) ?_
    refine FL.pur rfl rfl (p_move rfl) ?_
    refine FL.pur rfl rfl (p_indexA rfl rfl Try.underlying41 inf3_eq inf3_size (by omega) (by omega)) ?_
    refine FL.val _ _ rfl rfl (p_load rfl Try.underlying3 rfl hce) ?_
    refine FL.call rfl rfl (p_call Try.func49 rfl rfl rfl) (ks) ?_
    rintro e_ w_ ⟨rfl, rfl⟩
    refine ⟨_, rfl, ?_⟩
    refine FL.pur rfl rfl (p_eql rfl rfl rfl) ?_
    refine FL.nilK ?_
    refine FC.cond (decide (sg vs (g c i) = 1)) rfl (fun hcc => ?_) (fun hcc => FC.skip (thn_normal ?_))
    · have c1 := of_decide_eq_true hcc
      refine FC.seq (FC.region ?_)
      refine FL.pur rfl rfl (p_assign rfl) ?_
      refine FL.nilK ?_
      refine FC.ret ?_
      repeat (first | with_reducible refine thn_ret ?_ | with_reducible refine blk_ret ?_ | with_reducible refine nog_ret ?_)
      exact ret1 Try.results40 rfl ⟨⟨true, rfl, ⟨fun _ => .inl ⟨g c i, rd_mem c i (by omega) (by omega), List.mem_of_mem_take ((hF.iff _ ⟨hL1, hL2⟩ hz).1 c1)⟩, fun _ => rfl⟩⟩, hf⟩
    have c1 := of_decide_eq_false hcc
    refine FC.region ?_
    refine FL.pur rfl rfl (p_move rfl) ?_
    refine FL.pur rfl rfl (p_move rfl) ?_
    refine FL.pur rfl rfl (p_move rfl) ?_
    refine FL.pur rfl rfl (p_indexA rfl rfl Try.underlying41 inf3_eq inf3_size (by omega) (by omega)) ?_
    refine FL.val _ _ rfl rfl (p_load rfl Try.underlying3 rfl hce) ?_
    refine FL.pur rfl rfl (p_neg rfl (wr (by omega) (by omega))) ?_
    refine FL.call rfl rfl (p_call Try.func50 rfl rfl rfl) (kp) ?_
    rintro e_ w_ ⟨rfl, hv2, f2⟩
    refine ⟨_, rfl, ?_⟩
    refine FL.nil ?_
    refine blk_normal (thn_normal ?_)
    refine FC.region ?_
    refine FL.pur rfl rfl (p_move rfl) ?_
    refine FL.pur rfl rfl (p_add rfl rfl ((wr (by omega) (by omega)).trans (show (i : Int) + 1 = ((i + 1 : Nat) : Int) by omega))) ?_
    refine FL.pur rfl rfl (p_assign rfl) ?_
    refine FL.nil ?_
    exact ⟨(i + 1, pt vs (-(g c i))), ⟨rfl, rfl, rfl, rfl, trivial⟩, ⟨hv2, hf.trans f2 fun k hk => .inr (by rw [hk, hb]; exact Nat.le_refl _), hlt, hF.step hlc hlt c1⟩, by show c.length - (i + 1) < c.length - i; omega⟩
  rintro vs1 w2 ⟨hv, hf, hF⟩
  obtain ⟨hFo, hnt⟩ := hF.fo (Φ := Φ) hlc
  clear hF
  refine FC.seq (FC.region ?_)
  refine FL.pur rfl rfl (p_assign rfl) ?_
  refine FL.nilK ?_
  refine FC.cut (σ := Unit) (fun _ => []) (fun _ w2 => Fr (fun _ => False) w w2 ∧ ¬ Conf Φ fun l => -l ∈ c) ?_ ?_
  · refine FC.block ?_
    refine FC.loop (σ := List Int × Bool) (fun x => [(1, .slice A1 Φ.length cap1), (7, .slice (some ⟨b, 0, none⟩) (m + 1) (m + 1)), (9, .bool x.2)]) (fun x w2 => Vec w2 b x.1 ∧ Fr (fun _ => False) w w2 ∧ Fo m Φ c x.1 ∧ (x.2 = false → ∀ j, j < Φ.length → unitL x.1 (Φ.getD j []) 0 = (0, true))) (fun x => 2 * zeros x.1 + (if x.2 then 1 else 0)) (vs1, true) ⟨hv, hf, hFo, fun h => by cases h⟩ ⟨rfl, rfl, rfl, trivial⟩ ?_
    clear hv hf hFo
    rintro ⟨vs0, ch0⟩ w2 ⟨hv, hf, hFo, hu⟩
    simp only at hv hf hFo hu ⊢
    refine FC.seq ?_
    refine FC.seq (FC.region ?_)
    refine FL.pur rfl rfl (p_move rfl) ?_
    refine FL.nilK ?_
    refine FC.cond ch0 rfl (fun hcc => FC.skip (thn_normal ?_)) (fun hcc => FC.exit ?_)
    rotate_left
    · exact thn_exit (thn_exit (blk_exit ⟨(), trivial, hf, hFo.closed hΦ hlc fun d hd => by
        obtain ⟨q, hq, rfl⟩ := List.mem_iff_getElem.1 hd
        have := hu hcc q (by omega)
        rwa [List.getD_eq_getElem?_getD, List.getElem?_eq_getElem hq] at this⟩))
    subst hcc
    clear hu
    refine FC.block ?_
    refine FC.seq (FC.region ?_)
    refine FL.pur rfl rfl (p_assign rfl) ?_
    refine FL.nilK ?_
    refine FC.seq (FC.region ?_)
    refine FL.pur rfl rfl (p_assign rfl) ?_
    refine FL.nilK ?_
    refine FC.block ?_
    refine FC.loop (σ := Nat × List Int × Bool) (fun x => [(1, .slice A1 Φ.length cap1), (7, .slice (some ⟨b, 0, none⟩) (m + 1) (m + 1)), (9, .bool x.2.2), (10, .int .i64 x.1)]) (fun x w2 => Vec w2 b x.2.1 ∧ Fr (fun _ => False) w w2 ∧ Fo m Φ c x.2.1 ∧ x.1 ≤ Φ.length ∧ (x.2.2 = true → zeros x.2.1 < zeros vs0) ∧ (x.2.2 = false → x.2.1 = vs0 ∧ ∀ j, j < x.1 → unitL x.2.1 (Φ.getD j []) 0 = (0, true))) (fun x => Φ.length - x.1) (0, vs0, false)
      ⟨hv, hf, hFo, Nat.zero_le _, fun h => (by cases h), fun _ => ⟨rfl, fun j hj => absurd hj (Nat.not_lt_zero _)⟩⟩ ⟨rfl, rfl, rfl, rfl, trivial⟩ ?_
    clear hv hf hFo
    rintro ⟨i, vs, ch⟩ w2 ⟨hv, hf, hFo, hi, hz1, hz2⟩
    simp only at hv hf hFo hi hz1 hz2 ⊢
    refine FC.seq ?_
    refine FC.seq (FC.region ?_)
    refine FL.pur rfl rfl (p_move rfl) ?_
    refine FL.pur rfl rfl (p_move rfl) ?_
    refine FL.pur rfl rfl (p_len rfl Try.underlying22) ?_
    refine FL.pur rfl rfl (p_lss rfl rfl rfl) ?_
    refine FL.nilK ?_
    refine FC.cond (decide ((i : Int) < (Φ.length : Int))) rfl (fun hcc => FC.skip (thn_normal ?_)) (fun hcc => FC.exit ?_)
    rotate_left
    · have hge : ¬ (i : Int) < (Φ.length : Int) := of_decide_eq_false hcc
      refine thn_exit (thn_exit (blk_exit (blk_normal ⟨(vs, ch), ⟨rfl, rfl, rfl, trivial⟩, ⟨hv, hf, hFo, fun h j hj => (hz2 h).2 j (by omega)⟩, ?_⟩)))
      show 2 * zeros vs + (if ch = true then 1 else 0) < 2 * zeros vs0 + 1
      cases ch with
      | true => have := hz1 rfl; simp; omega
      | false => rw [(hz2 rfl).1]; simp
    have hlt : i < Φ.length := by have := of_decide_eq_true hcc; omega
    obtain ⟨ad, u, rfl, hadB, hcu, hru⟩ := hc1 i hlt
    have hcu : w2.cell? (ad.add (i : Int).toNat) = some u := hf.cell hcu fun h => h
    have hru : Row w2 w2.heap.size u (Φ.getD i []) := (hru.fr hf fun _ _ h => h).mono (by have := hf.size; omega)
    have hd : Φ.getD i [] ∈ Φ := mem_getD hlt
    have hvl := hFo.vo.len
    have ku := unit_calls (hv.row hv.lt (m + 1)) hru hm hFo.vo (hΦ _ hd) (hl _ hd)
    rw [hvl] at ku
    refine FC.seq ?_
    refine FC.block ?_
    obtain ⟨x1, x2, hx⟩ : ∃ x1 x2, unitL vs (Φ.getD i []) 0 = (x1, x2) := ⟨_, _, rfl⟩
    rw [hx] at ku
    refine FC.seq (FC.region ?_)
    refine FL.pur rfl rfl (p_move rfl) ?_
    refine FL.pur rfl rfl (p_move rfl) ?_
    refine FL.pur rfl rfl (p_move rfl) ?_
    refine FL.pur rfl rfl (p_indexA rfl rfl Try.underlying22 inf41_eq inf41_size (by omega) (by omega)) ?_
    refine FL.val _ _ rfl rfl (p_load rfl Try.underlying41 rfl hcu) ?_
    refine FL.call rfl rfl (p_call Try.func51 rfl rfl rfl) (ku) ?_
    rintro e_ w_ ⟨rfl, rfl⟩
    refine ⟨_, rfl, ?_⟩
    refine FL.pur rfl rfl (p_move rfl) ?_
    refine FL.pur rfl rfl (p_extract rfl rfl) ?_
    refine FL.pur rfl rfl (p_extract rfl rfl) ?_
    refine FL.pur rfl rfl (p_assign rfl) ?_
    refine FL.pur rfl rfl (p_assign rfl) ?_
    refine FL.nilK ?_
    refine FC.seq ?_
    refine FC.seq (FC.region ?_)
    refine FL.pur rfl rfl (p_move rfl) ?_
    refine FL.pur rfl rfl (p_not rfl) ?_
    refine FL.nilK ?_
    cases x2 with
    | false =>
      refine FC.cond_t rfl ?_
      refine FC.seq (FC.region ?_)
      refine FL.pur rfl rfl (p_assign rfl) ?_
      refine FL.nilK ?_
      refine FC.ret ?_
      repeat (first | with_reducible refine thn_ret ?_ | with_reducible refine blk_ret ?_ | with_reducible refine nog_ret ?_)
      exact ret1 Try.results40 rfl ⟨⟨true, rfl, ⟨fun _ => .inr (hFo.conf hΦ hd (unit_no hFo.vo _ 0 _ (hΦ _ hd) hx).2), fun _ => rfl⟩⟩, hf⟩
    | true =>
      refine FC.cond_f rfl (FC.skip (thn_normal ?_))
      by_cases c0 : x1 = 0
      · subst c0
        refine FC.seq (FC.region ?_)
        refine FL.pur rfl rfl (p_move rfl) ?_
        refine FL.pur rfl rfl (p_neq rfl rfl (show _ = !false from rfl)) ?_
        refine FL.nilK ?_
        refine FC.cond_f rfl (FC.skip ?_)
        refine blk_normal (thn_normal ?_)
        refine FC.region ?_
        refine FL.pur rfl rfl (p_move rfl) ?_
        refine FL.pur rfl rfl (p_add rfl rfl ((wr (by omega) (by omega)).trans (show (i : Int) + 1 = ((i + 1 : Nat) : Int) by omega))) ?_
        refine FL.pur rfl rfl (p_assign rfl) ?_
        refine FL.nil ?_
        exact ⟨(i + 1, vs, ch), ⟨rfl, rfl, rfl, rfl, trivial⟩, ⟨hv, hf, hFo, hlt, hz1, fun h => ⟨(hz2 h).1, fun j hj => by
          by_cases e : j = i
          · rw [e]; exact hx
          · exact (hz2 h).2 j (by omega)⟩⟩, by show Φ.length - (i + 1) < Φ.length - i; omega⟩
      · obtain ⟨_, p, q⟩ := unit_one hFo.vo _ 0 x1 (hΦ _ hd) hx c0
        obtain ⟨p1, p2⟩ := p.resolve_left c0
        have kp := putv_calls (cap := m + 1) hv hm hFo.vo (hΦ _ hd x1 p1).1 c0
        rw [hvl] at kp
        have hzz := zeros_pt hFo.vo (hΦ _ hd x1 p1).1 p2
        refine FC.seq (FC.region ?_)
        refine FL.pur rfl rfl (p_move rfl) ?_
        refine FL.pur rfl rfl (p_neq rfl rfl (show _ = !true by simp [c0])) ?_
        refine FL.nilK ?_
        refine FC.cond_t rfl ?_
        refine FC.seq (FC.region ?_)
        refine FL.pur rfl rfl (p_move rfl) ?_
        refine FL.pur rfl rfl (p_move rfl) ?_
        refine FL.call rfl rfl (p_call Try.func50 rfl rfl rfl) (kp) ?_
        rintro e_ w_ ⟨rfl, hv2, f2⟩
        refine ⟨_, rfl, ?_⟩
        refine FL.nilK ?_
        refine FC.region ?_
        refine FL.pur rfl rfl (p_assign rfl) ?_
        refine FL.nil ?_
        refine blk_normal (thn_normal ?_)
        refine FC.region ?_
        refine FL.pur rfl rfl (p_move rfl) ?_
        refine FL.pur rfl rfl (p_add rfl rfl ((wr (by omega) (by omega)).trans (show (i : Int) + 1 = ((i + 1 : Nat) : Int) by omega))) ?_
        refine FL.pur rfl rfl (p_assign rfl) ?_
        refine FL.nil ?_
        exact ⟨(i + 1, pt vs x1, true), ⟨rfl, rfl, rfl, rfl, trivial⟩, ⟨hv2, hf.trans f2 fun k hk => .inr (by rw [hk, hb]; exact Nat.le_refl _), hFo.put hΦ hlc hd p1 p2 q, hlt, fun _ => (by
          show zeros (pt vs x1) < zeros vs0
          cases ch with
          | true => have := hz1 rfl; omega
          | false => rw [(hz2 rfl).1] at hzz ⊢; omega), fun h => (by cases h)⟩, by show Φ.length - (i + 1) < Φ.length - i; omega⟩
  rintro - w2 ⟨hf2, hno⟩
  refine FC.seq (FC.region ?_)
  refine FL.pur rfl rfl (p_assign rfl) ?_
  refine FL.nilK ?_
  refine FC.ret ?_
  repeat (first | with_reducible refine thn_ret ?_ | with_reducible refine blk_ret ?_ | with_reducible refine nog_ret ?_)
  exact ret1 Try.results40 rfl ⟨⟨false, rfl, ⟨fun h => (by cases h), fun h => h.elim (fun h => absurd h hnt) fun h => absurd h hno⟩⟩, hf2⟩
end
end Go.Proofs.Ytcahhbcehnbdkaa.Sv

/- Walks of the reference: Check, Refutes. -/
namespace Go.Proofs.Ytcahhbcehnbdkaa.Sv
open Go.RowKit Go.Proofs.YtcahhbcehnbdkaaW.PrintWords Go.Proofs.YtcahhbcehnbdkaaW.PrintLast Go.Proofs.Ytcahhbcehnbdkaa.Eng
section
variable {w w' : World} {B : Nat} {cs ps : List (List Int)}
theorem getD_take_all {p : List Int → Prop} (h : ∀ j, j < cs.length → p (cs.getD j [])) : ∀ c ∈ cs, p c := fun c hc => by
  obtain ⟨q, hq, rfl⟩ := List.mem_iff_getElem.1 hc
  have := h q hq
  rwa [List.getD_eq_getElem?_getD, List.getElem?_eq_getElem hq] at this
set_option maxHeartbeats 2000000 in
theorem refcheck_calls {v : Value} (h1 : Rws w B v cs) (a : Int) (ha : -9223372036854775808 ≤ a ∧ a < 9223372036854775808) (hn : cs.length < 4611686018427387904) (hl : ∀ d ∈ cs, d.length < 4611686018427387904) :
    Calls Try.prog 13 #[.int .i64 a, v] w fun e w' => e = .returned (.int .i64 (checkV a cs)) ∧ w = w' := by
  obtain ⟨A1, cap1, rfl, hc1⟩ := h1
  refine calls_of_FC (N := 65) (vs := [.int .i64 a, .slice A1 cs.length cap1]) Try.func13 rfl Try.ntmps13 (Nat.le_of_ble_eq_true rfl) ?_
  refine FC.seq (FC.region ?_)
  refine FL.pur rfl rfl (p_assign rfl) ?_
  refine FL.nilK ?_
  refine FC.seq ?_
  by_cases q1 : 5000 < a
  · refine FC.seq (FC.region ?_)
    refine FL.pur rfl rfl (p_move rfl) ?_
    refine FL.pur rfl rfl (p_gtr rfl rfl (decide_eq_true q1)) ?_
    refine FL.pur rfl rfl (p_move rfl) ?_
    refine FL.off rfl rfl ?_
    refine FL.off rfl rfl ?_
    refine FL.off rfl rfl ?_
    refine FL.pur rfl rfl (p_pick_t rfl rfl) ?_
    refine FL.nilK ?_
    refine FC.cond_t rfl ?_
    refine FC.seq (FC.region ?_)
    refine FL.pur rfl rfl (p_assign rfl) ?_
    refine FL.nilK ?_
    refine FC.ret ?_
    repeat (first | with_reducible refine thn_ret ?_ | with_reducible refine blk_ret ?_ | with_reducible refine nog_ret ?_)
    exact ret1 Try.results13 rfl ⟨by unfold checkV; rw [if_pos (.inl q1)], rfl⟩
  by_cases q2 : 20000 < cs.length
  · refine FC.seq (FC.region ?_)
    refine FL.pur rfl rfl (p_move rfl) ?_
    refine FL.pur rfl rfl (p_gtr rfl rfl (decide_eq_false q1)) ?_
    refine FL.pur rfl rfl (p_move rfl) ?_
    refine FL.pur rfl rfl (p_move rfl) ?_
    refine FL.pur rfl rfl (p_len rfl Try.underlying22) ?_
    refine FL.pur rfl rfl (p_gtr rfl rfl (decide_eq_true (by omega))) ?_
    refine FL.pur rfl rfl (p_pick_f rfl rfl) ?_
    refine FL.nilK ?_
    refine FC.cond_t rfl ?_
    refine FC.seq (FC.region ?_)
    refine FL.pur rfl rfl (p_assign rfl) ?_
    refine FL.nilK ?_
    refine FC.ret ?_
    repeat (first | with_reducible refine thn_ret ?_ | with_reducible refine blk_ret ?_ | with_reducible refine nog_ret ?_)
    exact ret1 Try.results13 rfl ⟨by unfold checkV; rw [if_pos (.inr (.inl q2))], rfl⟩
  refine FC.seq (FC.region ?_)
  refine FL.pur rfl rfl (p_move rfl) ?_
  refine FL.pur rfl rfl (p_gtr rfl rfl (decide_eq_false q1)) ?_
  refine FL.pur rfl rfl (p_move rfl) ?_
  refine FL.pur rfl rfl (p_move rfl) ?_
  refine FL.pur rfl rfl (p_len rfl Try.underlying22) ?_
  refine FL.pur rfl rfl (p_gtr rfl rfl (decide_eq_false (by omega))) ?_
  refine FL.pur rfl rfl (p_pick_f rfl rfl) ?_
  refine FL.nilK ?_
  refine FC.cond_f rfl (FC.skip (thn_normal ?_))
  refine FC.cut (σ := Unit) (fun _ => [(0, .int .i64 a), (1, .slice A1 cs.length cap1)]) (fun _ w2 => w = w2 ∧ cs.any longB = false) ?_ ?_
  · refine FC.seq (FC.region ?_)
    refine FL.pur rfl rfl (p_assign rfl) ?_
    refine FL.nilK ?_
    refine FC.block ?_
    refine FC.loop (σ := Nat) (fun x => [(0, .int .i64 a), (1, .slice A1 cs.length cap1), (5, .int .i64 x)]) (fun x w2 => w = w2 ∧ x ≤ cs.length ∧ ∀ j, j < x → longB (cs.getD j []) = false) (fun x => cs.length - x) 0 ⟨rfl, Nat.zero_le _, fun j hj => absurd hj (Nat.not_lt_zero _)⟩ ⟨rfl, rfl, rfl, trivial⟩ ?_
    rintro i w2 ⟨rfl, hi, hno⟩
    refine FC.seq ?_
    refine FC.seq (FC.region ?_)
    refine FL.pur rfl rfl (p_move rfl) ?_
    refine FL.pur rfl rfl (p_move rfl) ?_
    refine FL.pur rfl rfl (p_len rfl Try.underlying22) ?_
    refine FL.pur rfl rfl (p_lss rfl rfl rfl) ?_
    refine FL.nilK ?_
    refine FC.cond (decide ((i : Int) < (cs.length : Int))) rfl (fun hcc => FC.skip (thn_normal ?_)) (fun hcc => FC.exit ?_)
    rotate_left
    · have hge : ¬ (i : Int) < (cs.length : Int) := of_decide_eq_false hcc
      exact thn_exit (thn_exit (blk_exit ⟨(), ⟨rfl, rfl, trivial⟩, rfl, by
        rw [List.any_eq_false]
        intro c hc
        have := getD_take_all (cs := cs) (p := fun c => longB c = false) (fun j hj => hno j (by omega)) c hc
        rw [this]; decide⟩))
    have hlt : i < cs.length := by have := of_decide_eq_true hcc; omega
    obtain ⟨ad, u, rfl, hadB, hcu, A2, cap2, rfl, hc2⟩ := hc1 i hlt
    have hcu : w.cell? (ad.add (i : Int).toNat) = _ := hcu
    refine FC.seq ?_
    refine FC.block ?_
    refine FC.seq (FC.region ?_)
    refine FL.pur rfl rfl (p_move rfl) ?_
    refine FL.pur rfl rfl (p_move rfl) ?_
    refine FL.pur rfl rfl (p_indexA rfl rfl Try.underlying22 inf41_eq inf41_size (by omega) (by omega)) ?_
    refine FL.val _ _ rfl rfl (p_load rfl Try.underlying41 rfl hcu) ?_
    refine FL.pur rfl rfl (p_len rfl Try.underlying41) ?_
    refine FL.pur rfl rfl (p_gtr rfl rfl rfl) ?_
    refine FL.nilK ?_
    refine FC.cond (decide (5000 < ((cs.getD i []).length : Int))) rfl (fun hcc => ?_) (fun hcc => FC.skip ?_)
    · have q3 := of_decide_eq_true hcc
      refine FC.seq (FC.region ?_)
      refine FL.pur rfl rfl (p_assign rfl) ?_
      refine FL.nilK ?_
      refine FC.ret ?_
      repeat (first | with_reducible refine thn_ret ?_ | with_reducible refine blk_ret ?_ | with_reducible refine nog_ret ?_)
      exact ret1 Try.results13 rfl ⟨by
        unfold checkV
        rw [if_pos (.inr (.inr (List.any_eq_true.2 ⟨_, mem_getD (d := []) hlt, decide_eq_true (by omega)⟩)))], rfl⟩
    · have q3 := of_decide_eq_false hcc
      refine blk_normal (thn_normal ?_)
      refine FC.region ?_
      refine FL.pur rfl rfl (p_move rfl) ?_
      refine FL.pur rfl rfl (p_add rfl rfl ((wr (by omega) (by omega)).trans (show (i : Int) + 1 = ((i + 1 : Nat) : Int) by omega))) ?_
      refine FL.pur rfl rfl (p_assign rfl) ?_
      refine FL.nil ?_
      exact ⟨i + 1, ⟨rfl, rfl, rfl, trivial⟩, ⟨rfl, hlt, fun j hj => by
        by_cases e : j = i
        · rw [e]; show decide (5000 < (cs.getD i []).length) = false; exact decide_eq_false fun h => q3 (by omega)
        · exact hno j (by omega)⟩, by show cs.length - (i + 1) < cs.length - i; omega⟩
  rintro - w2 ⟨rfl, hno⟩
  have hq : ¬ (5000 < a ∨ 20000 < cs.length ∨ cs.any longB = true) := by rw [hno]; simp; omega
  refine FC.seq ?_
  refine FC.seq (FC.region ?_)
  refine FL.pur rfl rfl (p_move rfl) ?_
  refine FL.pur rfl rfl (p_lss rfl rfl rfl) ?_
  refine FL.nilK ?_
  refine FC.cond (decide (a < 0)) rfl (fun hcc => ?_) (fun hcc => FC.skip (thn_normal ?_))
  · have q4 := of_decide_eq_true hcc
    refine FC.seq (FC.region ?_)
    refine FL.pur rfl rfl (p_assign rfl) ?_
    refine FL.nilK ?_
    refine FC.ret ?_
    repeat (first | with_reducible refine thn_ret ?_ | with_reducible refine blk_ret ?_ | with_reducible refine nog_ret ?_)
    exact ret1 Try.results13 rfl ⟨by unfold checkV; rw [if_neg hq, if_pos (.inl q4)], rfl⟩
  have q4 := of_decide_eq_false hcc
  clear hcc
  have kn : ∀ l, knownB a l = false → decide (l = 0) = true ∨ decide (l = 0) = false ∧ (a < l ∨ ¬ a < l ∧ l < -a) := fun l h => by
    simp only [knownB, Bool.not_eq_false', Bool.or_eq_true, decide_eq_true_eq] at h
    by_cases e : l = 0
    · exact .inl (decide_eq_true e)
    · exact .inr ⟨decide_eq_false e, by omega⟩
  refine FC.cut (σ := Unit) (fun _ => []) (fun _ w2 => w = w2 ∧ (cs.all fun c => c.all (knownB a)) = true) ?_ ?_
  · refine FC.seq (FC.region ?_)
    refine FL.pur rfl rfl (p_assign rfl) ?_
    refine FL.nilK ?_
    refine FC.block ?_
    refine FC.loop (σ := Nat) (fun x => [(0, .int .i64 a), (1, .slice A1 cs.length cap1), (6, .int .i64 x)]) (fun x w2 => w = w2 ∧ x ≤ cs.length ∧ ∀ j, j < x → (cs.getD j []).all (knownB a) = true) (fun x => cs.length - x) 0 ⟨rfl, Nat.zero_le _, fun j hj => absurd hj (Nat.not_lt_zero _)⟩ ⟨rfl, rfl, rfl, trivial⟩ ?_
    rintro i w2 ⟨rfl, hi, hk⟩
    refine FC.seq ?_
    refine FC.seq (FC.region ?_)
    refine FL.pur rfl rfl (p_move rfl) ?_
    refine FL.pur rfl rfl (p_move rfl) ?_
    refine FL.pur rfl rfl (p_len rfl Try.underlying22) ?_
    refine FL.pur rfl rfl (p_lss rfl rfl rfl) ?_
    refine FL.nilK ?_
    refine FC.cond (decide ((i : Int) < (cs.length : Int))) rfl (fun hcc => FC.skip (thn_normal ?_)) (fun hcc => FC.exit ?_)
    rotate_left
    · have hge : ¬ (i : Int) < (cs.length : Int) := of_decide_eq_false hcc
      exact thn_exit (thn_exit (blk_exit ⟨(), trivial, rfl, List.all_eq_true.2 (getD_take_all (p := fun c => c.all (knownB a) = true) fun j hj => hk j (by omega))⟩))
    have hlt : i < cs.length := by have := of_decide_eq_true hcc; omega
    obtain ⟨ad, u, rfl, hadB, hcu, A2, cap2, rfl, hc2⟩ := hc1 i hlt
    have hcu : w.cell? (ad.add (i : Int).toNat) = _ := hcu
    have hdl := hl _ (mem_getD (d := []) hlt)
    obtain ⟨d, hd⟩ : ∃ d, d = cs.getD i [] := ⟨_, rfl⟩
    rw [← hd] at hcu hc2 hdl
    refine FC.seq ?_
    refine FC.block ?_
    refine FC.seq (FC.region ?_)
    refine FL.pur rfl rfl (p_assign rfl) ?_
    refine FL.nilK ?_
    refine FC.block ?_
    refine FC.loop (σ := Nat) (fun x => [(0, .int .i64 a), (1, .slice (some ad) cs.length cap1), (6, .int .i64 i), (7, .int .i64 x)]) (fun x w2 => w = w2 ∧ x ≤ d.length ∧ ∀ j, j < x → knownB a (g d j) = true) (fun x => d.length - x) 0 ⟨rfl, Nat.zero_le _, fun j hj => absurd hj (Nat.not_lt_zero _)⟩ ⟨rfl, rfl, rfl, rfl, trivial⟩ ?_
    rintro j w2 ⟨rfl, hj, hkj⟩
    refine FC.seq ?_
    refine FC.seq (FC.region ?_)
    refine FL.pur rfl rfl (p_move rfl) ?_
    refine FL.pur rfl rfl (p_move rfl) ?_
    refine FL.pur rfl rfl (p_move rfl) ?_
    refine FL.pur rfl rfl (p_indexA rfl rfl Try.underlying22 inf41_eq inf41_size (by omega) (by omega)) ?_
    refine FL.val _ _ rfl rfl (p_load rfl Try.underlying41 rfl hcu) ?_
    refine FL.pur rfl rfl (p_len rfl Try.underlying41) ?_
    refine FL.pur rfl rfl (p_lss rfl rfl rfl) ?_
    refine FL.nilK ?_
    refine FC.cond (decide ((j : Int) < (d.length : Int))) rfl (fun hcc => FC.skip (thn_normal ?_)) (fun hcc => FC.exit ?_)
    rotate_left
    · have hge : ¬ (j : Int) < (d.length : Int) := of_decide_eq_false hcc
      refine thn_exit (thn_exit (blk_exit (blk_normal (thn_normal ?_))))
      refine FC.region ?_
      refine FL.pur rfl rfl (p_move rfl) ?_
      refine FL.pur rfl rfl (p_add rfl rfl ((wr (by omega) (by omega)).trans (show (i : Int) + 1 = ((i + 1 : Nat) : Int) by omega))) ?_
      refine FL.pur rfl rfl (p_assign rfl) ?_
      refine FL.nil ?_
      exact ⟨i + 1, ⟨rfl, rfl, rfl, trivial⟩, ⟨rfl, hlt, fun q hq' => by
        by_cases e : q = i
        · rw [e, ← hd]
          refine List.all_eq_true.2 fun l hlm => ?_
          obtain ⟨p, hp, rfl⟩ := List.mem_iff_getElem.1 hlm
          have := hkj p (by omega)
          rwa [g, List.getD_eq_getElem?_getD, List.getElem?_eq_getElem hp] at this
        · exact hk q (by omega)⟩, by show cs.length - (i + 1) < cs.length - i; omega⟩
    have hjt : j < d.length := by have := of_decide_eq_true hcc; omega
    obtain ⟨ad2, rfl, hadB2, hcl⟩ := hc2 j hjt
    have hcl : w.cell? (ad2.add (j : Int).toNat) = some (.int .i64 (g d j)) := hcl
    refine FC.seq ?_
    refine FC.block ?_
    refine FC.seq (FC.region ?_)
    refine FL.pur rfl rfl (p_move rfl) ?_
    refine FL.pur rfl rfl (p_move rfl) ?_
    refine FL.pur rfl rfl (p_indexA rfl rfl Try.underlying22 inf41_eq inf41_size (by omega) (by omega)) ?_
    refine FL.val _ _ rfl rfl (p_load rfl Try.underlying41 rfl hcu) ?_
    refine FL.pur rfl rfl (p_move rfl) ?_
    refine FL.pur rfl rfl (p_indexA rfl rfl Try.underlying41 inf3_eq inf3_size (by omega) (by omega)) ?_
    refine FL.val _ _ rfl rfl (p_load rfl Try.underlying3 rfl hcl) ?_
    refine FL.pur rfl rfl (p_assign rfl) ?_
    refine FL.nilK ?_
    have bad : knownB a (g d j) = false → (cs.all fun c => c.all (knownB a)) = false := fun h => by
      rw [Bool.eq_false_iff]
      intro hall
      have := List.all_eq_true.1 (List.all_eq_true.1 hall _ (mem_getD (d := []) hlt)) (g d j) (by rw [← hd]; exact rd_mem d j (by omega) (by omega))
      rw [h] at this; cases this
    cases hkn : knownB a (g d j) with
    | false =>
      have hbad := bad hkn
      have fin : checkV a cs = 8 := by unfold checkV; rw [if_neg hq, if_pos (.inr hbad)]
      rcases kn _ hkn with k0 | ⟨k0, k1 | ⟨k1, k2⟩⟩
      · refine FC.seq (FC.region ?_)
        refine FL.pur rfl rfl (p_move rfl) ?_
        refine FL.pur rfl rfl (p_eql rfl rfl k0) ?_
        refine FL.pur rfl rfl (p_move rfl) ?_
        refine FL.off rfl rfl ?_
        refine FL.off rfl rfl ?_
        refine FL.off rfl rfl ?_
        refine FL.pur rfl rfl (p_pick_t rfl rfl) ?_
        refine FL.pur rfl rfl (p_move rfl) ?_
        refine FL.off rfl rfl ?_
        refine FL.off rfl rfl ?_
        refine FL.off rfl rfl ?_
        refine FL.off rfl rfl ?_
        refine FL.pur rfl rfl (p_pick_t rfl rfl) ?_
        refine FL.nilK ?_
        refine FC.cond_t rfl ?_
        refine FC.seq (FC.region ?_)
        refine FL.pur rfl rfl (p_assign rfl) ?_
        refine FL.nilK ?_
        refine FC.ret ?_
        repeat (first | with_reducible refine thn_ret ?_ | with_reducible refine blk_ret ?_ | with_reducible refine nog_ret ?_)
        exact ret1 Try.results13 rfl ⟨by rw [fin], rfl⟩
      · refine FC.seq (FC.region ?_)
        refine FL.pur rfl rfl (p_move rfl) ?_
        refine FL.pur rfl rfl (p_eql rfl rfl k0) ?_
        refine FL.pur rfl rfl (p_move rfl) ?_
        refine FL.pur rfl rfl (p_move rfl) ?_
        refine FL.pur rfl rfl (p_move rfl) ?_
        refine FL.pur rfl rfl (p_gtr rfl rfl (decide_eq_true k1)) ?_
        refine FL.pur rfl rfl (p_pick_f rfl rfl) ?_
        refine FL.pur rfl rfl (p_move rfl) ?_
        refine FL.off rfl rfl ?_
        refine FL.off rfl rfl ?_
        refine FL.off rfl rfl ?_
        refine FL.off rfl rfl ?_
        refine FL.pur rfl rfl (p_pick_t rfl rfl) ?_
        refine FL.nilK ?_
        refine FC.cond_t rfl ?_
        refine FC.seq (FC.region ?_)
        refine FL.pur rfl rfl (p_assign rfl) ?_
        refine FL.nilK ?_
        refine FC.ret ?_
        repeat (first | with_reducible refine thn_ret ?_ | with_reducible refine blk_ret ?_ | with_reducible refine nog_ret ?_)
        exact ret1 Try.results13 rfl ⟨by rw [fin], rfl⟩
      · refine FC.seq (FC.region ?_)
        refine FL.pur rfl rfl (p_move rfl) ?_
        refine FL.pur rfl rfl (p_eql rfl rfl k0) ?_
        refine FL.pur rfl rfl (p_move rfl) ?_
        refine FL.pur rfl rfl (p_move rfl) ?_
        refine FL.pur rfl rfl (p_move rfl) ?_
        refine FL.pur rfl rfl (p_gtr rfl rfl (decide_eq_false k1)) ?_
        refine FL.pur rfl rfl (p_pick_f rfl rfl) ?_
        refine FL.pur rfl rfl (p_move rfl) ?_
        refine FL.pur rfl rfl (p_move rfl) ?_
        refine FL.pur rfl rfl (p_move rfl) ?_
        refine FL.pur rfl rfl (p_neg rfl (wr (by omega) (by omega))) ?_
        refine FL.pur rfl rfl (p_lss rfl rfl (decide_eq_true k2)) ?_
        refine FL.pur rfl rfl (p_pick_f rfl rfl) ?_
        refine FL.nilK ?_
        refine FC.cond_t rfl ?_
        refine FC.seq (FC.region ?_)
        refine FL.pur rfl rfl (p_assign rfl) ?_
        refine FL.nilK ?_
        refine FC.ret ?_
        repeat (first | with_reducible refine thn_ret ?_ | with_reducible refine blk_ret ?_ | with_reducible refine nog_ret ?_)
        exact ret1 Try.results13 rfl ⟨by rw [fin], rfl⟩
    | true =>
      have h3 := hkn
      simp only [knownB, Bool.not_eq_true', Bool.or_eq_false_iff, decide_eq_false_iff_not] at h3
      refine FC.seq (FC.region ?_)
      refine FL.pur rfl rfl (p_move rfl) ?_
      refine FL.pur rfl rfl (p_eql rfl rfl (decide_eq_false h3.1.1)) ?_
      refine FL.pur rfl rfl (p_move rfl) ?_
      refine FL.pur rfl rfl (p_move rfl) ?_
      refine FL.pur rfl rfl (p_move rfl) ?_
      refine FL.pur rfl rfl (p_gtr rfl rfl (decide_eq_false (by omega))) ?_
      refine FL.pur rfl rfl (p_pick_f rfl rfl) ?_
      refine FL.pur rfl rfl (p_move rfl) ?_
      refine FL.pur rfl rfl (p_move rfl) ?_
      refine FL.pur rfl rfl (p_move rfl) ?_
      refine FL.pur rfl rfl (p_neg rfl (wr (by omega) (by omega))) ?_
      refine FL.pur rfl rfl (p_lss rfl rfl (decide_eq_false (by omega))) ?_
      refine FL.pur rfl rfl (p_pick_f rfl rfl) ?_
      refine FL.nilK ?_
      refine FC.cond_f rfl (FC.skip ?_)
      refine blk_normal (thn_normal ?_)
      refine FC.region ?_
      refine FL.pur rfl rfl (p_move rfl) ?_
      refine FL.pur rfl rfl (p_add rfl rfl ((wr (by omega) (by omega)).trans (show (j : Int) + 1 = ((j + 1 : Nat) : Int) by omega))) ?_
      refine FL.pur rfl rfl (p_assign rfl) ?_
      refine FL.nil ?_
      exact ⟨j + 1, ⟨rfl, rfl, rfl, rfl, trivial⟩, ⟨rfl, hjt, fun q hq' => by
        by_cases e : q = j
        · rw [e]; exact hkn
        · exact hkj q (by omega)⟩, by show d.length - (j + 1) < d.length - j; omega⟩
  rintro - w2 ⟨rfl, hall⟩
  refine FC.seq (FC.region ?_)
  refine FL.pur rfl rfl (p_assign rfl) ?_
  refine FL.nilK ?_
  refine FC.ret ?_
  repeat (first | with_reducible refine thn_ret ?_ | with_reducible refine blk_ret ?_ | with_reducible refine nog_ret ?_)
  exact ret1 Try.results13 rfl ⟨by unfold checkV; rw [if_neg hq, if_neg (by rw [hall]; simp; omega)], rfl⟩
end
end Go.Proofs.Ytcahhbcehnbdkaa.Sv

/- Rows of rows that a call has made itself; appended to. -/
namespace Go.Proofs.Ytcahhbcehnbdkaa.Sv
open Go.RowKit Go.Proofs.YtcahhbcehnbdkaaW.PrintWords Go.Proofs.YtcahhbcehnbdkaaW.PrintLast Go.Proofs.Ytcahhbcehnbdkaa.Eng

/-- A row that is only read, whose block is of P. -/
def RowP (w : World) (P : Nat → Prop) (v : Value) (d : List Int) : Prop :=
  ∃ A cap, v = .slice A d.length cap ∧ ∀ i, i < d.length → ∃ ad, A = some ad ∧ P ad.block ∧ w.cell? (ad.add i) = some (.int .i64 (g d i))
/-- Rows of rows that are only read, whose blocks are of P. -/
def RwsP (w : World) (P : Nat → Prop) (v : Value) (cs : List (List Int)) : Prop :=
  ∃ A cap, v = .slice A cs.length cap ∧ ∀ i, i < cs.length → ∃ ad u, A = some ad ∧ P ad.block ∧ w.cell? (ad.add i) = some u ∧ RowP w P u (cs.getD i [])
/-- A row of rows of the call's own; the rows inside lie in other blocks, of P. -/
structure AllRow (w : World) (B0 : Nat) (P : Nat → Prop) (v : Value) (cs : List (List Int)) : Prop where
  out : ∃ us, w.ownsRow B0 41 1 v cs.length us ∧ ∀ i, i < cs.length → ∃ u, us[i]? = some u ∧ RowP w (fun k => P k ∧ ¬ v.ownBlock = some k) u (cs.getD i [])
section
variable {w w' : World} {B B0 : Nat} {P Q : Nat → Prop} {v u : Value} {cs ps : List (List Int)} {c : List Int}
theorem RowP.mono (h : RowP w P v c) (hp : ∀ k, P k → k < w.heap.size → Q k) : RowP w Q v c := by
  obtain ⟨A, cap, rfl, h1⟩ := h
  refine ⟨A, cap, rfl, fun i hi => ?_⟩
  obtain ⟨ad, e1, e2, e3⟩ := h1 i hi
  have hb := World.block_lt_of_cell? w _ e3
  rw [add_block] at hb
  exact ⟨ad, e1, hp _ e2 hb, e3⟩
theorem RowP.fr {F : Nat → Prop} (h : RowP w P v c) (hf : Fr F w w') (hp : ∀ k, P k → ¬ F k) : RowP w' P v c := by
  obtain ⟨A, cap, rfl, h1⟩ := h
  refine ⟨A, cap, rfl, fun i hi => ?_⟩
  obtain ⟨ad, e1, e2, e3⟩ := h1 i hi
  exact ⟨ad, e1, e2, hf.cell e3 (by rw [add_block]; exact hp _ e2)⟩
theorem RowP.row (h : RowP w P v c) : Row w w.heap.size v c := h.mono fun _ _ hk => hk
theorem RwsP.mono (h : RwsP w P v cs) (hp : ∀ k, P k → k < w.heap.size → Q k) : RwsP w Q v cs := by
  obtain ⟨A, cap, rfl, h1⟩ := h
  refine ⟨A, cap, rfl, fun i hi => ?_⟩
  obtain ⟨ad, u, e1, e2, e3, e4⟩ := h1 i hi
  have hb := World.block_lt_of_cell? w _ e3
  rw [add_block] at hb
  exact ⟨ad, u, e1, hp _ e2 hb, e3, e4.mono hp⟩
theorem RwsP.fr {F : Nat → Prop} (h : RwsP w P v cs) (hf : Fr F w w') (hp : ∀ k, P k → ¬ F k) : RwsP w' P v cs := by
  obtain ⟨A, cap, rfl, h1⟩ := h
  refine ⟨A, cap, rfl, fun i hi => ?_⟩
  obtain ⟨ad, u, e1, e2, e3, e4⟩ := h1 i hi
  exact ⟨ad, u, e1, e2, hf.cell e3 (by rw [add_block]; exact hp _ e2), e4.fr hf hp⟩
theorem RwsP.rws (h : RwsP w P v cs) : Rws w w.heap.size v cs := h.mono fun _ _ hk => hk
theorem Rws.p (h : Rws w B v cs) : RwsP w (· < B) v cs := h
theorem RwsP.at (h : RwsP w P v cs) (i : Nat) (hi : i < cs.length) : ∃ A cap ad u, v = .slice A cs.length cap ∧ A = some ad ∧ P ad.block ∧ w.cell? (ad.add i) = some u ∧ RowP w P u (cs.getD i []) := by
  obtain ⟨A, cap, e, h1⟩ := h
  obtain ⟨ad, u, e1, e2, e3, e4⟩ := h1 i hi
  exact ⟨A, cap, ad, u, e, e1, e2, e3, e4⟩
theorem AllRow.nil (hn : v = .slice none 0 0) : AllRow w B0 P v [] := ⟨[], by subst hn; exact ⟨rfl, .inl ⟨rfl, rfl⟩⟩, fun i hi => absurd hi (Nat.not_lt_zero _)⟩
theorem own_built (w : World) (B : Nat) (e : TypeId) (hB : B ≤ w.heap.size) : (w.alloc (.cells #[] e)).ownsRow B e 1 (.slice (some ⟨w.heap.size, 0, none⟩) 0 0) 0 [] :=
  ⟨by simp, .inr ⟨w.heap.size, 0, #[], rfl, hB, heap_alloc_new w _, Nat.le_refl _, Nat.zero_le _, by simp, by simp⟩⟩
theorem AllRow.fr {F : Nat → Prop} (h : AllRow w B0 P v cs) (hf : Fr F w w') (hv : ∀ k, v.ownBlock = some k → ¬ F k) (hp : ∀ k, P k → ¬ F k) : AllRow w' B0 P v cs := by
  obtain ⟨us, h1, h2⟩ := h.out
  refine ⟨us, ownsRow_same h1 fun k hk => hf.block k (h1.lt k hk).2 (hv k hk), fun i hi => ?_⟩
  obtain ⟨u, e1, e2⟩ := h2 i hi
  exact ⟨u, e1, e2.fr hf fun k hk => hp k hk.1⟩
theorem AllRow.rws (h : AllRow w B0 P v cs) : RwsP w (fun k => P k ∨ v.ownBlock = some k) v cs := by
  obtain ⟨us, h1, h2⟩ := h.out
  have h1' := h1
  rcases h1.2 with ⟨e, hn⟩ | ⟨q, cap, cur, e, hb, hh, hc, hm, hs, ht⟩
  · exact ⟨none, 0, by rw [e, hn], fun i hi => by omega⟩
  · refine ⟨some ⟨q, 0, none⟩, cap, e, fun i hi => ?_⟩
    obtain ⟨u, e1, e2⟩ := h2 i hi
    have := h1'.cells (g := q) (by rw [e]; rfl) i u e1
    exact ⟨_, u, rfl, .inr (by rw [e]; rfl), this, e2.mono fun k hk _ => .inl hk.1⟩
theorem one_append (w : World) (x : Value) (t : TypeId) : ∀ j y, [x][j]? = some y → (w.alloc (.cells #[x] t)).cell? ((⟨w.heap.size, 0, none⟩ : Addr).add j) = some y := news1 w x t
section
variable {ρ : Env} {dst : Option Tmp} {tp : TypeId} {pos : String} {af : Array Edge} {gd : Option (Nat × Bool)} {x y : Operand}
theorem getD_snoc {α : Type} (l : List α) (a d : α) (i : Nat) : (l ++ [a]).getD i d = if i < l.length then l.getD i d else if i = l.length then a else d := by
  simp only [List.getD_eq_getElem?_getD]
  by_cases h : i < l.length
  · rw [List.getElem?_append_left h, if_pos h]
  · rw [if_neg h, List.getElem?_append_right (by omega)]
    by_cases e : i = l.length
    · subst e; simp
    · rw [if_neg e, List.getElem?_eq_none (by simp; omega)]; rfl
/-- One row more. -/
theorem AllRow.app (h : AllRow w B0 P v cs) (hB : B0 ≤ w.heap.size) (hlen : cs.length < 1099511627776) (hu : RowP w (fun k => P k ∧ ¬ v.ownBlock = some k) u c) (hx : ev ρ x = some v) (hy : ev ρ y = some (.slice (some ⟨w.heap.size, 0, none⟩) 1 1)) :
    ∃ v1 w1, Val Try.prog ρ ⟨dst, .call { callee := .builtin .append, args := #[x, y], argTypes := #[22, 22] }, tp, pos, af, gd⟩ (w.alloc (.cells #[u] 41)) v1 w1 ∧ AllRow w1 B0 P v1 (cs ++ [c]) ∧ Fr (fun k => v.ownBlock = some k) w w1 ∧ (v1.ownBlock = v.ownBlock ∨ ∃ b, v1.ownBlock = some b ∧ w.heap.size ≤ b) := by
  obtain ⟨us, h1, h2⟩ := h.out
  have hul : us.length = cs.length := by have := h1.1; omega
  have hu1 : u.oneCell' = true := by obtain ⟨A, cap, rfl, _⟩ := hu; rfl
  obtain ⟨v1, w1, a1, a2, a3, a4⟩ := app22 (ρ := ρ) (dst := dst) (ty := tp) (pos := pos) (af := af) (g := gd) hx hy (h1.alloc (.cells #[u] 41)) (news := [u]) rfl (one_append w u 41) (by simpa using hu1) (by omega) (by simp; omega)
  have f1 : Fr (fun k => v.ownBlock = some k) w w1 := ((Fr.refl _ w).alloc _).grown a3 fun k hk => .inl hk
  have a4' : v1.ownBlock = v.ownBlock ∨ ∃ b, v1.ownBlock = some b ∧ w.heap.size ≤ b := by
    rcases a4 with h | ⟨b, h, hb⟩
    · exact .inl h
    · exact .inr ⟨b, h, by simp at hb; omega⟩
  have hne : ∀ k, k < w.heap.size → ¬ v.ownBlock = some k → ¬ v1.ownBlock = some k := fun k hk hv e => by
    rcases a4' with h | ⟨b, h, hb⟩
    · exact hv (h.symm.trans e)
    · rw [h] at e; injection e with e; omega
  have mv : ∀ {u c}, RowP w (fun k => P k ∧ ¬ v.ownBlock = some k) u c → RowP w1 (fun k => P k ∧ ¬ v1.ownBlock = some k) u c := fun hr =>
    (hr.mono (Q := fun k => (P k ∧ ¬ v1.ownBlock = some k) ∧ ¬ v.ownBlock = some k) fun k hk hl => ⟨⟨hk.1, hne k hl hk.2⟩, hk.2⟩).fr f1 (fun k hk => hk.2) |>.mono fun k hk _ => hk.1
  refine ⟨v1, w1, a1, ⟨us ++ [u], by simpa using a2, fun i hi => ?_⟩, f1, a4'⟩
  rw [getD_snoc]
  by_cases e : i < cs.length
  · obtain ⟨z, e1, e2⟩ := h2 i e
    rw [if_pos e]
    exact ⟨z, by rw [List.getElem?_append_left (by omega)]; exact e1, mv e2⟩
  · have : i = cs.length := by simp at hi; omega
    subst this
    rw [if_neg (by omega), if_pos rfl]
    exact ⟨u, by rw [← hul]; simp, mv hu⟩
theorem appNil22 {n cap c : Nat} {A A' : Option Addr} (hx : ev ρ x = some (.slice A n cap)) (hy : ev ρ y = some (.slice A' 0 c)) (hn : n ≤ cap) :
    Val Try.prog ρ ⟨dst, .call { callee := .builtin .append, args := #[x, y], argTypes := #[22, 22] }, tp, pos, af, gd⟩ w (.slice A n cap) w := p_appendNil hx hy Try.underlying22 inf41_eq hn
/-- A copy of the outer row. -/
theorem AllRow.copy (h : RwsP w P u cs) (hP : ∀ k, P k → k < w.heap.size) (hB : B0 ≤ w.heap.size) (hlen : cs.length < 1099511627776) (hx : ev ρ x = some (.slice (some ⟨w.heap.size, 0, none⟩) 0 0)) (hy : ev ρ y = some u) :
    ∃ v1 w1, Val Try.prog ρ ⟨dst, .call { callee := .builtin .append, args := #[x, y], argTypes := #[22, 22] }, tp, pos, af, gd⟩ (w.alloc (.cells #[] 41)) v1 w1 ∧ AllRow w1 B0 P v1 cs ∧ Fr (fun _ => False) w w1 := by
  have hal : Fr (fun _ => False) w (w.alloc (.cells #[] 41)) := (Fr.refl _ w).alloc _
  by_cases hn : cs.length = 0
  · obtain ⟨A, cap, rfl, _⟩ := h
    rw [hn] at hy
    have e : cs = [] := List.length_eq_zero_iff.1 hn
    subst e
    exact ⟨_, _, appNil22 hx hy (Nat.le_refl _), ⟨[], own_built w B0 41 hB, fun i hi => absurd hi (Nat.not_lt_zero _)⟩, hal⟩
  · obtain ⟨A, cap, rfl, h1⟩ := h
    obtain ⟨ad, _, rfl, _⟩ := h1 0 (by omega)
    have hex : ∀ i, i < cs.length → ∃ z, w.cell? (ad.add i) = some z ∧ RowP w P z (cs.getD i []) := fun i hi => by
      obtain ⟨ad', z, e1, _, e3, e4⟩ := h1 i hi
      injection e1 with e1
      subst e1
      exact ⟨z, e3, e4⟩
    have hnews : ∀ j y, ((List.range cs.length).map fun i => (w.cell? (ad.add i)).getD undef)[j]? = some y → (w.alloc (.cells #[] 41)).cell? (ad.add j) = some y := fun j y hj => by
      have hjl : j < cs.length := by have := (List.getElem?_eq_some_iff.1 hj).1; simpa using this
      obtain ⟨z, e1, _⟩ := hex j hjl
      rw [List.getElem?_map, List.getElem?_range hjl] at hj
      simp only [Option.map_some, Option.some.injEq, e1, Option.getD_some] at hj
      rw [← hj]
      exact cell_alloc e1 _
    obtain ⟨v1, w1, a1, a2, a3, a4⟩ := app22 (ρ := ρ) (dst := dst) (ty := tp) (pos := pos) (af := af) (g := gd) hx hy (own_built w B0 41 hB) (news := (List.range cs.length).map fun i => (w.cell? (ad.add i)).getD undef) (by simp) hnews (fun z hz => by
      obtain ⟨i, hi, rfl⟩ := List.mem_map.1 hz
      obtain ⟨z, e1, A, cap, rfl, _⟩ := hex i (List.mem_range.1 hi)
      rw [e1]; rfl) (by omega) (by simp; omega)
    have f1 : Fr (fun _ => False) w w1 := hal.grown a3 fun k hk => .inr (by
      have : w.heap.size = k := by simpa [Value.ownBlock] using hk
      omega)
    rw [Nat.zero_add, List.nil_append] at a2
    refine ⟨v1, w1, a1, ⟨_, a2, fun i hi => ?_⟩, f1⟩
    obtain ⟨z, e1, e2⟩ := hex i hi
    refine ⟨z, ?_, (e2.fr f1 fun _ _ h => h).mono fun k hk hl => ⟨hk, fun e => ?_⟩⟩
    · rw [List.getElem?_map, List.getElem?_range hi]
      simp [e1]
    · have h5 : w.heap.size ≤ k := by
        rcases a4 with h | ⟨b, h, hb⟩
        · rw [h] at e
          have : w.heap.size = k := by simpa [Value.ownBlock] using e
          omega
        · rw [h] at e; injection e with e; simp at hb; omega
      have := hP k hk
      omega
/-- A copy of a row of numbers. -/
theorem copy_row (h : RowP w P u c) (hlen : c.length < 1099511627776) (hx : ev ρ x = some (.slice (some ⟨w.heap.size, 0, none⟩) 0 0)) (hy : ev ρ y = some u) :
    ∃ v1 w1, Val Try.prog ρ ⟨dst, .call { callee := .builtin .append, args := #[x, y], argTypes := #[41, 41] }, tp, pos, af, gd⟩ (w.alloc (.cells #[] 3)) v1 w1 ∧ w1.ownsRow w.heap.size 3 1 v1 c.length (nums .i64 c) ∧ Fr (fun _ => False) w w1 := by
  have hal : Fr (fun _ => False) w (w.alloc (.cells #[] 3)) := (Fr.refl _ w).alloc _
  by_cases hn : c.length = 0
  · obtain ⟨A, cap, rfl, _⟩ := h
    rw [hn] at hy
    have e : c = [] := List.length_eq_zero_iff.1 hn
    subst e
    exact ⟨_, _, appNil41 hx hy (Nat.le_refl _), own_built w _ 3 (Nat.le_refl _), hal⟩
  · obtain ⟨A, cap, rfl, h1⟩ := h
    obtain ⟨ad, rfl, _, _⟩ := h1 0 (by omega)
    have hnews : ∀ j y, (nums .i64 c)[j]? = some y → (w.alloc (.cells #[] 3)).cell? (ad.add j) = some y := fun j y hj => by
      have hjl : j < c.length := by have := (List.getElem?_eq_some_iff.1 hj).1; simpa [nums] using this
      obtain ⟨ad', e1, _, e3⟩ := h1 j hjl
      injection e1 with e1
      subst e1
      have : y = .int .i64 (g c j) := by
        simp only [nums, List.getElem?_map, List.getElem?_eq_getElem hjl, Option.map_some, Option.some.injEq] at hj
        rw [← hj, g, List.getD_eq_getElem?_getD, List.getElem?_eq_getElem hjl]
        rfl
      rw [this]
      exact cell_alloc e3 _
    obtain ⟨v1, w1, a1, a2, a3, a4⟩ := app41 (ρ := ρ) (dst := dst) (ty := tp) (pos := pos) (af := af) (g := gd) hx hy (own_built w w.heap.size 3 (Nat.le_refl _)) (news := nums .i64 c) (by simp [nums]) hnews (fun z hz => by
      obtain ⟨i, hi, rfl⟩ := List.mem_map.1 hz
      rfl) (by omega) (by simp)
    rw [Nat.zero_add, List.nil_append] at a2
    exact ⟨v1, w1, a1, a2, hal.grown a3 fun k hk => .inr (by
      have : w.heap.size = k := by simpa [Value.ownBlock] using hk
      omega)⟩
theorem rowP_own (h : w.ownsRow B0 3 1 v c.length (nums .i64 c)) : RowP w (fun k => B0 ≤ k ∧ v.ownBlock = some k) v c := by
  have h' := h
  rcases h.2 with ⟨e, hn⟩ | ⟨q, cap, cur, e, hb, hh, hc, hm, hs, ht⟩
  · exact ⟨none, 0, by rw [e, hn], fun i hi => by omega⟩
  · refine ⟨some ⟨q, 0, none⟩, cap, e, fun i hi => ⟨_, rfl, ⟨hb, by rw [e]; rfl⟩, ?_⟩⟩
    exact h'.cells (g := q) (by rw [e]; rfl) i _ (by simp [nums, g, List.getElem?_eq_getElem hi])
end
end
end Go.Proofs.Ytcahhbcehnbdkaa.Sv

/- Walks of the reference: Refutes, Many, Twin. -/
namespace Go.Proofs.Ytcahhbcehnbdkaa.Sv
open Go.RowKit Go.Proofs.YtcahhbcehnbdkaaW.PrintWords Go.Proofs.YtcahhbcehnbdkaaW.PrintLast Go.Proofs.Ytcahhbcehnbdkaa.Eng
section
variable {w w' : World} {P Q : Nat → Prop} {cs ps : List (List Int)}
theorem take_snoc (ps : List (List Int)) (i : Nat) (h : i < ps.length) : ps.take (i + 1) = ps.take i ++ [ps.getD i []] := by
  rw [List.take_add_one, List.getElem?_eq_getElem h]
  simp [List.getElem?_eq_getElem h]
set_option maxHeartbeats 2000000 in
theorem refrefutes_calls {v1 v2 : Value} (a : Int) (ha : -9223372036854775808 ≤ a ∧ a < 9223372036854775808) (h1 : RwsP w P v1 cs) (h2 : RwsP w P v2 ps) (hP : ∀ k, P k → k < w.heap.size) (hl1 : cs.length < 4611686018427387904) (hll1 : ∀ c ∈ cs, c.length < 4611686018427387904) (hl2 : ps.length < 4611686018427387904) (hll2 : ∀ c ∈ ps, c.length < 4611686018427387904) :
    Calls Try.prog 17 #[.int .i64 a, v1, v2] w fun e w' => (∃ b : Bool, e = .returned (.bool b) ∧ (b = true ↔ RefSpec a cs ps)) ∧ Fr (fun _ => False) w w' := by
  have h1' := h1
  have h2' := h2
  obtain ⟨A1, cap1, rfl, hc1⟩ := h1
  obtain ⟨A2, cap2, rfl, hc2⟩ := h2
  have k1 := refcheck_calls (w := w) h1'.rws a ha hl1 hll1
  have k2 := refcheck_calls (w := w) h2'.rws a ha hl2 hll2
  refine calls_of_FC (N := 63) (vs := [.int .i64 a, .slice A1 cs.length cap1, .slice A2 ps.length cap2]) Try.func17 rfl Try.ntmps17 (Nat.le_of_ble_eq_true rfl) ?_
  refine FC.seq (FC.region ?_)
  refine FL.pur rfl rfl (p_assign rfl) ?_
  refine FL.nilK ?_
  refine FC.seq ?_
  by_cases c1 : checkV a cs = 0
  rotate_left
  · refine FC.seq (FC.region ?_)
    refine FL.pur rfl rfl (p_move rfl) ?_
    refine FL.pur rfl rfl (p_move rfl) ?_
    refine FL.call rfl rfl (p_call Try.func13 rfl rfl rfl) (k1) ?_
    rintro e_ w_ ⟨rfl, rfl⟩
    refine ⟨_, rfl, ?_⟩
    refine FL.pur rfl rfl (p_neq rfl rfl (show _ = !true by simp [c1])) ?_
    refine FL.pur rfl rfl (p_move rfl) ?_
    refine FL.off rfl rfl ?_
    refine FL.off rfl rfl ?_
    refine FL.off rfl rfl ?_
    refine FL.pur rfl rfl (p_pick_t rfl rfl) ?_
    refine FL.pur rfl rfl (p_move rfl) ?_
    refine FL.off rfl rfl ?_
    refine FL.off rfl rfl ?_
    refine FL.off rfl rfl ?_
    refine FL.off rfl rfl ?_
    refine FL.pur rfl rfl (p_pick_t rfl rfl) ?_
    refine FL.pur rfl rfl (p_move rfl) ?_
    refine FL.off rfl rfl ?_
    refine FL.off rfl rfl ?_
    refine FL.off rfl rfl ?_
    refine FL.pur rfl rfl (p_pick_t rfl rfl) ?_
    refine FL.pur rfl rfl (p_move rfl) ?_
    refine FL.off rfl rfl ?_
    refine FL.off rfl rfl ?_
    refine FL.off rfl rfl ?_
    refine FL.off rfl rfl ?_
    refine FL.off rfl rfl ?_
    refine FL.off rfl rfl ?_
    refine FL.off rfl rfl ?_
    refine FL.off rfl rfl ?_
    refine FL.pur rfl rfl (p_pick_t rfl rfl) ?_
    refine FL.nilK ?_
    refine FC.cond_t rfl ?_
    refine FC.seq (FC.region ?_)
    refine FL.pur rfl rfl (p_assign rfl) ?_
    refine FL.nilK ?_
    refine FC.ret ?_
    repeat (first | with_reducible refine thn_ret ?_ | with_reducible refine blk_ret ?_ | with_reducible refine nog_ret ?_)
    exact ret1 Try.results17 rfl ⟨⟨false, rfl, by simp [RefSpec, c1]⟩, Fr.refl _ _⟩
  by_cases c2 : 20000 < ps.length
  · refine FC.seq (FC.region ?_)
    refine FL.pur rfl rfl (p_move rfl) ?_
    refine FL.pur rfl rfl (p_move rfl) ?_
    refine FL.call rfl rfl (p_call Try.func13 rfl rfl rfl) (k1) ?_
    rintro e_ w_ ⟨rfl, rfl⟩
    refine ⟨_, rfl, ?_⟩
    refine FL.pur rfl rfl (p_neq rfl rfl (show _ = !false by simp [c1])) ?_
    refine FL.pur rfl rfl (p_move rfl) ?_
    refine FL.pur rfl rfl (p_move rfl) ?_
    refine FL.pur rfl rfl (p_len rfl Try.underlying22) ?_
    refine FL.pur rfl rfl (p_gtr rfl rfl (decide_eq_true (by omega))) ?_
    refine FL.pur rfl rfl (p_pick_f rfl rfl) ?_
    refine FL.pur rfl rfl (p_move rfl) ?_
    refine FL.off rfl rfl ?_
    refine FL.off rfl rfl ?_
    refine FL.off rfl rfl ?_
    refine FL.off rfl rfl ?_
    refine FL.pur rfl rfl (p_pick_t rfl rfl) ?_
    refine FL.pur rfl rfl (p_move rfl) ?_
    refine FL.off rfl rfl ?_
    refine FL.off rfl rfl ?_
    refine FL.off rfl rfl ?_
    refine FL.pur rfl rfl (p_pick_t rfl rfl) ?_
    refine FL.pur rfl rfl (p_move rfl) ?_
    refine FL.off rfl rfl ?_
    refine FL.off rfl rfl ?_
    refine FL.off rfl rfl ?_
    refine FL.off rfl rfl ?_
    refine FL.off rfl rfl ?_
    refine FL.off rfl rfl ?_
    refine FL.off rfl rfl ?_
    refine FL.off rfl rfl ?_
    refine FL.pur rfl rfl (p_pick_t rfl rfl) ?_
    refine FL.nilK ?_
    refine FC.cond_t rfl ?_
    refine FC.seq (FC.region ?_)
    refine FL.pur rfl rfl (p_assign rfl) ?_
    refine FL.nilK ?_
    refine FC.ret ?_
    repeat (first | with_reducible refine thn_ret ?_ | with_reducible refine blk_ret ?_ | with_reducible refine nog_ret ?_)
    exact ret1 Try.results17 rfl ⟨⟨false, rfl, by have : ¬ ps.length ≤ 20000 := by omega
                                                  simp [RefSpec, this]⟩, Fr.refl _ _⟩
  by_cases c3 : checkV a ps = 0
  rotate_left
  · refine FC.seq (FC.region ?_)
    refine FL.pur rfl rfl (p_move rfl) ?_
    refine FL.pur rfl rfl (p_move rfl) ?_
    refine FL.call rfl rfl (p_call Try.func13 rfl rfl rfl) (k1) ?_
    rintro e_ w_ ⟨rfl, rfl⟩
    refine ⟨_, rfl, ?_⟩
    refine FL.pur rfl rfl (p_neq rfl rfl (show _ = !false by simp [c1])) ?_
    refine FL.pur rfl rfl (p_move rfl) ?_
    refine FL.pur rfl rfl (p_move rfl) ?_
    refine FL.pur rfl rfl (p_len rfl Try.underlying22) ?_
    refine FL.pur rfl rfl (p_gtr rfl rfl (decide_eq_false (by omega))) ?_
    refine FL.pur rfl rfl (p_pick_f rfl rfl) ?_
    refine FL.pur rfl rfl (p_move rfl) ?_
    refine FL.pur rfl rfl (p_move rfl) ?_
    refine FL.pur rfl rfl (p_move rfl) ?_
    refine FL.call rfl rfl (p_call Try.func13 rfl rfl rfl) (k2) ?_
    rintro e_ w_ ⟨rfl, rfl⟩
    refine ⟨_, rfl, ?_⟩
    refine FL.pur rfl rfl (p_neq rfl rfl (show _ = !true by simp [c3])) ?_
    refine FL.pur rfl rfl (p_pick_f rfl rfl) ?_
    refine FL.pur rfl rfl (p_move rfl) ?_
    refine FL.off rfl rfl ?_
    refine FL.off rfl rfl ?_
    refine FL.off rfl rfl ?_
    refine FL.pur rfl rfl (p_pick_t rfl rfl) ?_
    refine FL.pur rfl rfl (p_move rfl) ?_
    refine FL.off rfl rfl ?_
    refine FL.off rfl rfl ?_
    refine FL.off rfl rfl ?_
    refine FL.off rfl rfl ?_
    refine FL.off rfl rfl ?_
    refine FL.off rfl rfl ?_
    refine FL.off rfl rfl ?_
    refine FL.off rfl rfl ?_
    refine FL.pur rfl rfl (p_pick_t rfl rfl) ?_
    refine FL.nilK ?_
    refine FC.cond_t rfl ?_
    refine FC.seq (FC.region ?_)
    refine FL.pur rfl rfl (p_assign rfl) ?_
    refine FL.nilK ?_
    refine FC.ret ?_
    repeat (first | with_reducible refine thn_ret ?_ | with_reducible refine blk_ret ?_ | with_reducible refine nog_ret ?_)
    exact ret1 Try.results17 rfl ⟨⟨false, rfl, by simp [RefSpec, c3]⟩, Fr.refl _ _⟩
  by_cases c4 : ps.length = 0
  · refine FC.seq (FC.region ?_)
    refine FL.pur rfl rfl (p_move rfl) ?_
    refine FL.pur rfl rfl (p_move rfl) ?_
    refine FL.call rfl rfl (p_call Try.func13 rfl rfl rfl) (k1) ?_
    rintro e_ w_ ⟨rfl, rfl⟩
    refine ⟨_, rfl, ?_⟩
    refine FL.pur rfl rfl (p_neq rfl rfl (show _ = !false by simp [c1])) ?_
    refine FL.pur rfl rfl (p_move rfl) ?_
    refine FL.pur rfl rfl (p_move rfl) ?_
    refine FL.pur rfl rfl (p_len rfl Try.underlying22) ?_
    refine FL.pur rfl rfl (p_gtr rfl rfl (decide_eq_false (by omega))) ?_
    refine FL.pur rfl rfl (p_pick_f rfl rfl) ?_
    refine FL.pur rfl rfl (p_move rfl) ?_
    refine FL.pur rfl rfl (p_move rfl) ?_
    refine FL.pur rfl rfl (p_move rfl) ?_
    refine FL.call rfl rfl (p_call Try.func13 rfl rfl rfl) (k2) ?_
    rintro e_ w_ ⟨rfl, rfl⟩
    refine ⟨_, rfl, ?_⟩
    refine FL.pur rfl rfl (p_neq rfl rfl (show _ = !false by simp [c3])) ?_
    refine FL.pur rfl rfl (p_pick_f rfl rfl) ?_
    refine FL.pur rfl rfl (p_move rfl) ?_
    refine FL.pur rfl rfl (p_move rfl) ?_
    refine FL.pur rfl rfl (p_len rfl Try.underlying22) ?_
    refine FL.pur rfl rfl (p_eql rfl rfl (decide_eq_true (by omega))) ?_
    refine FL.pur rfl rfl (p_pick_f rfl rfl) ?_
    refine FL.pur rfl rfl (p_move rfl) ?_
    refine FL.off rfl rfl ?_
    refine FL.off rfl rfl ?_
    refine FL.off rfl rfl ?_
    refine FL.off rfl rfl ?_
    refine FL.off rfl rfl ?_
    refine FL.off rfl rfl ?_
    refine FL.off rfl rfl ?_
    refine FL.off rfl rfl ?_
    refine FL.pur rfl rfl (p_pick_t rfl rfl) ?_
    refine FL.nilK ?_
    refine FC.cond_t rfl ?_
    refine FC.seq (FC.region ?_)
    refine FL.pur rfl rfl (p_assign rfl) ?_
    refine FL.nilK ?_
    refine FC.ret ?_
    repeat (first | with_reducible refine thn_ret ?_ | with_reducible refine blk_ret ?_ | with_reducible refine nog_ret ?_)
    exact ret1 Try.results17 rfl ⟨⟨false, rfl, by have : ¬ 0 < ps.length := by omega
                                                  simp [RefSpec, this]⟩, Fr.refl _ _⟩
  obtain ⟨ad, u, rfl, hadB, hcu, hru⟩ := hc2 (ps.length - 1) (by omega)
  obtain ⟨A3, cap3, rfl, _⟩ := hru
  refine FC.seq (FC.region ?_)
  refine FL.pur rfl rfl (p_move rfl) ?_
  refine FL.pur rfl rfl (p_move rfl) ?_
  refine FL.call rfl rfl (p_call Try.func13 rfl rfl rfl) (k1) ?_
  rintro e_ w_ ⟨rfl, rfl⟩
  refine ⟨_, rfl, ?_⟩
  refine FL.pur rfl rfl (p_neq rfl rfl (show _ = !false by simp [c1])) ?_
  refine FL.pur rfl rfl (p_move rfl) ?_
  refine FL.pur rfl rfl (p_move rfl) ?_
  refine FL.pur rfl rfl (p_len rfl Try.underlying22) ?_
  refine FL.pur rfl rfl (p_gtr rfl rfl (decide_eq_false (by omega))) ?_
  refine FL.pur rfl rfl (p_pick_f rfl rfl) ?_
  refine FL.pur rfl rfl (p_move rfl) ?_
  refine FL.pur rfl rfl (p_move rfl) ?_
  refine FL.pur rfl rfl (p_move rfl) ?_
  refine FL.call rfl rfl (p_call Try.func13 rfl rfl rfl) (k2) ?_
  rintro e_ w_ ⟨rfl, rfl⟩
  refine ⟨_, rfl, ?_⟩
  refine FL.pur rfl rfl (p_neq rfl rfl (show _ = !false by simp [c3])) ?_
  refine FL.pur rfl rfl (p_pick_f rfl rfl) ?_
  refine FL.pur rfl rfl (p_move rfl) ?_
  refine FL.pur rfl rfl (p_move rfl) ?_
  refine FL.pur rfl rfl (p_len rfl Try.underlying22) ?_
  refine FL.pur rfl rfl (p_eql rfl rfl (decide_eq_false (by omega))) ?_
  refine FL.pur rfl rfl (p_pick_f rfl rfl) ?_
  refine FL.pur rfl rfl (p_move rfl) ?_
  refine FL.pur rfl rfl (p_move rfl) ?_
  refine FL.pur rfl rfl (p_move rfl) ?_
  refine FL.pur rfl rfl (p_len rfl Try.underlying22) ?_
  refine FL.pur rfl rfl (p_sub rfl rfl ((wr (by omega) (by omega)).trans (show (ps.length : Int) - 1 = ((ps.length - 1 : Nat) : Int) by omega))) ?_
  refine FL.pur rfl rfl (p_indexA rfl rfl Try.underlying22 inf41_eq inf41_size (by omega) (by omega)) ?_
  refine FL.val _ _ rfl rfl (p_load rfl Try.underlying41 rfl hcu) ?_
  refine FL.pur rfl rfl (p_len rfl Try.underlying41) ?_
  refine FL.pur rfl rfl (p_gtr rfl rfl rfl) ?_
  refine FL.pur rfl rfl (p_pick_f rfl rfl) ?_
  refine FL.nilK ?_
  refine FC.cond (decide (0 < ((ps.getD (ps.length - 1) []).length : Int))) rfl (fun c5 => ?_) (fun c5 => FC.skip (thn_normal ?_))
  · have c5 := of_decide_eq_true c5
    refine FC.seq (FC.region ?_)
    refine FL.pur rfl rfl (p_assign rfl) ?_
    refine FL.nilK ?_
    refine FC.ret ?_
    repeat (first | with_reducible refine thn_ret ?_ | with_reducible refine blk_ret ?_ | with_reducible refine nog_ret ?_)
    exact ret1 Try.results17 rfl ⟨⟨false, rfl, by have : ¬ (ps.getD (ps.length - 1) []).length = 0 := by omega
                                                  exact ⟨fun h => (by cases h), fun h => absurd h.2.2.2.2.1 this⟩⟩, Fr.refl _ _⟩
  have c5 : (ps.getD (ps.length - 1) []).length = 0 := by have := of_decide_eq_false c5; omega
  obtain ⟨b1, b2, b3, b4⟩ := checkV_bad c1
  obtain ⟨_, _, _, b5⟩ := checkV_bad c3
  obtain ⟨m, rfl⟩ : ∃ m : Nat, a = m := ⟨a.toNat, by omega⟩
  have lit1 : ∀ c ∈ cs, ∀ l ∈ c, Lit (m + 1) l ∧ l ≠ 0 := fun c hc l hl => by
    have := b4 c hc l hl
    exact ⟨⟨by omega, by omega⟩, this.1⟩
  have lit2 : ∀ c ∈ ps, ∀ l ∈ c, Lit (m + 1) l ∧ l ≠ 0 := fun c hc l hl => by
    have := b5 c hc l hl
    exact ⟨⟨by omega, by omega⟩, this.1⟩
  refine FC.seq (FC.region ?_)
  refine FL.val _ _ rfl rfl bld22_0 ?_
  refine FL.pur rfl rfl (p_move rfl) ?_
  refine FL.valG _ rfl rfl (AllRow.copy (B0 := w.heap.size) h1' hP (Nat.le_refl _) (by omega) rfl rfl) ?_
  rintro v w1 ⟨hall, f1⟩
  refine FL.pur rfl rfl (p_assign rfl) ?_
  refine FL.nilK ?_
  refine FC.cut (σ := Unit) (fun _ => []) (fun _ w2 => Fr (fun _ => False) w w2 ∧ ∀ i, i < ps.length → Taut (ps.getD i []) ∨ Conf (cs ++ ps.take i) fun l => -l ∈ ps.getD i []) ?_ ?_
  · refine FC.seq (FC.region ?_)
    refine FL.pur rfl rfl (p_assign rfl) ?_
    refine FL.nilK ?_
    refine FC.block ?_
    refine FC.loop (σ := Nat × Value) (fun x => [(0, .int .i64 m), (2, .slice (some ad) ps.length cap2), (7, x.2), (8, .int .i64 x.1)]) (fun x w2 => x.1 ≤ ps.length ∧ AllRow w2 w.heap.size P x.2 (cs ++ ps.take x.1) ∧ Fr (fun _ => False) w w2 ∧ ∀ i, i < x.1 → Taut (ps.getD i []) ∨ Conf (cs ++ ps.take i) fun l => -l ∈ ps.getD i []) (fun x => ps.length - x.1) (0, v) ⟨Nat.zero_le _, by rw [List.take_zero, List.append_nil]; exact hall, f1, fun i hi => absurd hi (Nat.not_lt_zero _)⟩ ⟨rfl, rfl, rfl, rfl, trivial⟩ ?_
    clear hall f1
    rintro ⟨i, v⟩ w2 ⟨hi, hall, hf, hno⟩
    simp only at hi hall hf hno ⊢
    refine FC.seq ?_
    refine FC.seq (FC.region ?_)
    refine FL.pur rfl rfl (p_move rfl) ?_
    refine FL.pur rfl rfl (p_move rfl) ?_
    refine FL.pur rfl rfl (p_len rfl Try.underlying22) ?_
    refine FL.pur rfl rfl (p_lss rfl rfl rfl) ?_
    refine FL.nilK ?_
    refine FC.cond (decide ((i : Int) < (ps.length : Int))) rfl (fun hcc => FC.skip (thn_normal ?_)) (fun hcc => FC.exit ?_)
    rotate_left
    · have hge : ¬ (i : Int) < (ps.length : Int) := of_decide_eq_false hcc
      exact thn_exit (thn_exit (blk_exit ⟨(), trivial, hf, fun j hj => hno j (by omega)⟩))
    have hlt : i < ps.length := by have := of_decide_eq_true hcc; omega
    obtain ⟨ad', u1, e1, hadB1, hcu1, hru1⟩ := hc2 i hlt
    injection e1 with e1
    subst e1
    have hcu1 : w2.cell? (ad.add (i : Int).toNat) = some u1 := hf.cell hcu1 fun h => h
    have hd : ps.getD i [] ∈ ps := mem_getD hlt
    have hmem : ∀ d ∈ cs ++ ps.take i, d ∈ cs ∨ d ∈ ps := fun d hd => (List.mem_append.1 hd).imp id List.mem_of_mem_take
    have hlen : (cs ++ ps.take i).length ≤ 40000 := by simp; omega
    have kf := reffollows_calls (m := m) (w := w2) hall.rws.rws (hru1.fr hf fun _ _ h => h).row (Nat.le_refl _) (by omega) (fun d hd l hl => (hmem d hd).elim (fun h => lit1 d h l hl) (fun h => lit2 d h l hl)) (lit2 _ hd) (by omega) (fun d hd => (hmem d hd).elim (hll1 d) (hll2 d)) (hll2 _ hd)
    refine FC.seq ?_
    refine FC.block ?_
    refine FC.seq ?_
    refine FC.seq (FC.region ?_)
    refine FL.pur rfl rfl (p_move rfl) ?_
    refine FL.pur rfl rfl (p_move rfl) ?_
    refine FL.pur rfl rfl (p_move rfl) ?_
    refine FL.pur rfl rfl (p_move rfl) ?_
    refine FL.pur rfl rfl (p_indexA rfl rfl Try.underlying22 inf41_eq inf41_size (by omega) (by omega)) ?_
    refine FL.val _ _ rfl rfl (p_load rfl Try.underlying41 rfl hcu1) ?_
    refine FL.call rfl rfl (p_call Try.func40 rfl rfl rfl) (kf) ?_
    rintro e_ w_ ⟨⟨b, rfl, hb⟩, f3⟩
    refine ⟨_, rfl, ?_⟩
    refine FL.pur rfl rfl (p_not rfl) ?_
    refine FL.nilK ?_
    cases b with
    | false =>
      refine FC.cond_t rfl ?_
      refine FC.seq (FC.region ?_)
      refine FL.pur rfl rfl (p_assign rfl) ?_
      refine FL.nilK ?_
      refine FC.ret ?_
      repeat (first | with_reducible refine thn_ret ?_ | with_reducible refine blk_ret ?_ | with_reducible refine nog_ret ?_)
      exact ret1 Try.results17 rfl ⟨⟨false, rfl, ⟨fun h => (by cases h), fun h => hb.2 (h.2.2.2.2.2 i hlt)⟩⟩, hf.trans f3 fun _ h => h.elim⟩
    | true =>
      refine FC.cond_f rfl (FC.skip (thn_normal ?_))
      have hall := hall.fr f3 (fun _ _ h => h) (fun _ _ h => h)
      have hf := hf.trans f3 fun _ h => h.elim
      have hcu2 := f3.cell hcu1 fun h => h
      have hru2 : RowP w_ (fun k => P k ∧ ¬ v.ownBlock = some k) u1 (ps.getD i []) := (hru1.fr hf fun _ _ h => h).mono fun k hk _ => ⟨hk, fun e => by
        have := hP k hk
        have := (hall.out.choose_spec.1.lt k e).1
        omega⟩
      refine FC.region ?_
      refine FL.pur rfl rfl (p_move rfl) ?_
      refine FL.pur rfl rfl (p_move rfl) ?_
      refine FL.pur rfl rfl (p_move rfl) ?_
      refine FL.pur rfl rfl (p_indexA rfl rfl Try.underlying22 inf41_eq inf41_size (by omega) (by omega)) ?_
      refine FL.val _ _ rfl rfl (p_load rfl Try.underlying41 rfl hcu2) ?_
      refine FL.val _ _ rfl rfl (bld22 rfl (by obtain ⟨A, cap, rfl, _⟩ := hru1; rfl)) ?_
      refine FL.valG _ rfl rfl (hall.app (by have := hf.size; omega) (by omega) hru2 rfl rfl) ?_
      rintro v3 w3 ⟨hall3, f4, _⟩
      refine FL.pur rfl rfl (p_assign rfl) ?_
      refine FL.nil ?_
      refine blk_normal (thn_normal ?_)
      refine FC.region ?_
      refine FL.pur rfl rfl (p_move rfl) ?_
      refine FL.pur rfl rfl (p_add rfl rfl ((wr (by omega) (by omega)).trans (show (i : Int) + 1 = ((i + 1 : Nat) : Int) by omega))) ?_
      refine FL.pur rfl rfl (p_assign rfl) ?_
      refine FL.nil ?_
      refine ⟨(i + 1, v3), ⟨rfl, rfl, rfl, rfl, trivial⟩, ⟨hlt, by rw [take_snoc ps i hlt, ← List.append_assoc]; exact hall3, hf.trans f4 fun k hk => .inr (hall.out.choose_spec.1.lt k hk).1, fun j hj => ?_⟩, by show ps.length - (i + 1) < ps.length - i; omega⟩
      by_cases e : j = i
      · rw [e]; exact hb.1 rfl
      · exact hno j (by omega)
  rintro - w2 ⟨hf, hall⟩
  refine FC.seq (FC.region ?_)
  refine FL.pur rfl rfl (p_assign rfl) ?_
  refine FL.nilK ?_
  refine FC.ret ?_
  repeat (first | with_reducible refine thn_ret ?_ | with_reducible refine blk_ret ?_ | with_reducible refine nog_ret ?_)
  exact ret1 Try.results17 rfl ⟨⟨true, rfl, ⟨fun _ => ⟨c1, by omega, c3, by omega, c5, hall⟩, fun _ => rfl⟩⟩, hf⟩
end
end Go.Proofs.Ytcahhbcehnbdkaa.Sv

/- Walks of the reference: Many, Twin, True, Holds, Same. -/
namespace Go.Proofs.Ytcahhbcehnbdkaa.Sv
open Go.RowKit Go.Proofs.YtcahhbcehnbdkaaW.PrintWords Go.Proofs.YtcahhbcehnbdkaaW.PrintLast Go.Proofs.Ytcahhbcehnbdkaa.Eng
section
variable {w w' : World} {B mb : Nat} {P Q : Nat → Prop} {cs : List (List Int)} {bs : List Bool}
theorem sumL_take (cs : List (List Int)) (i : Nat) (h : i < cs.length) : sumL (cs.take (i + 1)) = sumL (cs.take i) + (cs.getD i []).length := by
  rw [take_snoc cs i h]; simp [sumL]
theorem sumL_le (cs : List (List Int)) (i : Nat) : sumL (cs.take i) ≤ sumL cs := by
  have : sumL cs = sumL (cs.take i) + sumL (cs.drop i) := by
    unfold sumL; rw [← List.sum_append, ← List.map_append, List.take_append_drop]
  omega
theorem many_calls {v : Value} (h : RwsP w P v cs) (lim : Nat) (hlim : lim ≤ 1000000) (hn : cs.length < 4611686018427387904) (hl : ∀ c ∈ cs, c.length < 4611686018427387904) :
    Calls Try.prog 10 #[v, .int .i64 lim] w fun e w' => e = .returned (.bool (manyV cs lim)) ∧ w = w' := by
  obtain ⟨A, cap, rfl, hc⟩ := h
  refine calls_of_FC (N := 32) (vs := [.slice A cs.length cap, .int .i64 lim]) Try.func10 rfl Try.ntmps10 (Nat.le_of_ble_eq_true rfl) ?_
  refine FC.seq (FC.region ?_)
  refine FL.pur rfl rfl (p_assign rfl) ?_
  refine FL.nilK ?_
  refine FC.seq ?_
  refine FC.seq (FC.region ?_)
  refine FL.pur rfl rfl (p_move rfl) ?_
  refine FL.pur rfl rfl (p_len rfl Try.underlying22) ?_
  refine FL.pur rfl rfl (p_move rfl) ?_
  refine FL.pur rfl rfl (p_gtr rfl rfl rfl) ?_
  refine FL.nilK ?_
  refine FC.cond (decide ((lim : Int) < (cs.length : Int))) rfl (fun hcc => ?_) (fun hcc => FC.skip (thn_normal ?_))
  · have q := of_decide_eq_true hcc
    refine FC.seq (FC.region ?_)
    refine FL.pur rfl rfl (p_assign rfl) ?_
    refine FL.nilK ?_
    refine FC.ret ?_
    repeat (first | with_reducible refine thn_ret ?_ | with_reducible refine blk_ret ?_ | with_reducible refine nog_ret ?_)
    exact ret1 Try.results10 rfl ⟨by unfold manyV; rw [decide_eq_true (show lim < cs.length by omega)]; rfl, rfl⟩
  have q := of_decide_eq_false hcc
  clear hcc
  refine FC.seq (FC.region ?_)
  refine FL.pur rfl rfl (p_assign rfl) ?_
  refine FL.nilK ?_
  refine FC.cut (σ := Nat) (fun n => [(1, .int .i64 lim), (5, .int .i64 n)]) (fun n w2 => w = w2 ∧ decide (lim < n) = decide (lim < sumL cs)) ?_ ?_
  · refine FC.seq (FC.region ?_)
    refine FL.pur rfl rfl (p_assign rfl) ?_
    refine FL.nilK ?_
    refine FC.block ?_
    refine FC.loop (σ := Nat) (fun i => [(0, .slice A cs.length cap), (1, .int .i64 lim), (5, .int .i64 (sumL (cs.take i))), (6, .int .i64 i)]) (fun i w2 => w = w2 ∧ i ≤ cs.length ∧ sumL (cs.take i) < 4611686018428387905) (fun i => cs.length - i) 0 ⟨rfl, Nat.zero_le _, by simp [sumL]⟩ ⟨rfl, rfl, rfl, rfl, trivial⟩ ?_
    rintro i w2 ⟨rfl, hi, hsm⟩
    refine FC.seq ?_
    by_cases q1 : i < cs.length
    rotate_left
    · refine FC.seq (FC.region ?_)
      refine FL.pur rfl rfl (p_move rfl) ?_
      refine FL.pur rfl rfl (p_move rfl) ?_
      refine FL.pur rfl rfl (p_len rfl Try.underlying22) ?_
      refine FL.pur rfl rfl (p_lss rfl rfl (decide_eq_false (by omega))) ?_
      refine FL.pur rfl rfl (p_move rfl) ?_
      refine FL.off rfl rfl ?_
      refine FL.off rfl rfl ?_
      refine FL.off rfl rfl ?_
      refine FL.pur rfl rfl (p_pick_f rfl rfl) ?_
      refine FL.nilK ?_
      refine FC.cond_f rfl (FC.exit ?_)
      exact thn_exit (thn_exit (blk_exit ⟨sumL (cs.take i), ⟨rfl, rfl, trivial⟩, rfl, by rw [List.take_of_length_le (by omega)]⟩))
    by_cases q2 : sumL (cs.take i) ≤ lim
    rotate_left
    · refine FC.seq (FC.region ?_)
      refine FL.pur rfl rfl (p_move rfl) ?_
      refine FL.pur rfl rfl (p_move rfl) ?_
      refine FL.pur rfl rfl (p_len rfl Try.underlying22) ?_
      refine FL.pur rfl rfl (p_lss rfl rfl (decide_eq_true (by omega))) ?_
      refine FL.pur rfl rfl (p_move rfl) ?_
      refine FL.pur rfl rfl (p_move rfl) ?_
      refine FL.pur rfl rfl (p_move rfl) ?_
      refine FL.pur rfl rfl (p_leq rfl rfl (decide_eq_false (by omega))) ?_
      refine FL.pur rfl rfl (p_pick_t rfl rfl) ?_
      refine FL.nilK ?_
      refine FC.cond_f rfl (FC.exit ?_)
      exact thn_exit (thn_exit (blk_exit ⟨sumL (cs.take i), ⟨rfl, rfl, trivial⟩, rfl, by
        have := sumL_le cs i
        rw [decide_eq_true (show lim < sumL (cs.take i) by omega), decide_eq_true (show lim < sumL cs by omega)]⟩))
    obtain ⟨ad, u, rfl, _, hcu, A2, cap2, rfl, _⟩ := hc i q1
    have hq := hl _ (mem_getD (d := []) q1)
    have hst := sumL_take cs i q1
    have hcu : w.cell? (ad.add (i : Int).toNat) = _ := hcu
    refine FC.seq (FC.region ?_)
    refine FL.pur rfl rfl (p_move rfl) ?_
    refine FL.pur rfl rfl (p_move rfl) ?_
    refine FL.pur rfl rfl (p_len rfl Try.underlying22) ?_
    refine FL.pur rfl rfl (p_lss rfl rfl (decide_eq_true (by omega))) ?_
    refine FL.pur rfl rfl (p_move rfl) ?_
    refine FL.pur rfl rfl (p_move rfl) ?_
    refine FL.pur rfl rfl (p_move rfl) ?_
    refine FL.pur rfl rfl (p_leq rfl rfl (decide_eq_true (by omega))) ?_
    refine FL.pur rfl rfl (p_pick_t rfl rfl) ?_
    refine FL.nilK ?_
    refine FC.cond_t rfl (FC.skip (thn_normal ?_))
    refine FC.seq ?_
    refine FC.block ?_
    refine FC.region ?_
    refine FL.pur rfl rfl (p_move rfl) ?_
    refine FL.pur rfl rfl (p_move rfl) ?_
    refine FL.pur rfl rfl (p_move rfl) ?_
    refine FL.pur rfl rfl (p_indexA rfl rfl Try.underlying22 inf41_eq inf41_size (by omega) (by omega)) ?_
    refine FL.val _ _ rfl rfl (p_load rfl Try.underlying41 rfl hcu) ?_
    refine FL.pur rfl rfl (p_len rfl Try.underlying41) ?_
    refine FL.pur rfl rfl (p_add rfl rfl ((wr (by omega) (by omega)).trans (show ((sumL (cs.take i) : Nat) : Int) + ((cs.getD i []).length : Int) = ((sumL (cs.take (i + 1)) : Nat) : Int) by omega))) ?_
    refine FL.pur rfl rfl (p_assign rfl) ?_
    refine FL.nil ?_
    refine blk_normal (thn_normal ?_)
    refine FC.region ?_
    refine FL.pur rfl rfl (p_move rfl) ?_
    refine FL.pur rfl rfl (p_add rfl rfl ((wr (by omega) (by omega)).trans (show (i : Int) + 1 = ((i + 1 : Nat) : Int) by omega))) ?_
    refine FL.pur rfl rfl (p_assign rfl) ?_
    refine FL.nil ?_
    exact ⟨i + 1, ⟨rfl, rfl, rfl, rfl, trivial⟩, ⟨rfl, q1, by omega⟩, by show cs.length - (i + 1) < cs.length - i; omega⟩
  rintro n w2 ⟨rfl, hn2⟩
  refine FC.seq (FC.region ?_)
  refine FL.pur rfl rfl (p_move rfl) ?_
  refine FL.pur rfl rfl (p_move rfl) ?_
  refine FL.pur rfl rfl (p_gtr rfl rfl (show _ = decide (lim < n) by simp [Int.ofNat_lt])) ?_
  refine FL.pur rfl rfl (p_assign rfl) ?_
  refine FL.nilK ?_
  refine FC.ret ?_
  repeat (first | with_reducible refine thn_ret ?_ | with_reducible refine blk_ret ?_ | with_reducible refine nog_ret ?_)
  exact ret1 Try.results10 rfl ⟨by unfold manyV; rw [hn2, decide_eq_false (show ¬ lim < cs.length by omega), Bool.false_or], rfl⟩
set_option maxHeartbeats 1000000 in
theorem twin_calls {v : Value} (h : RwsP w P v cs) (hP : ∀ k, P k → k < w.heap.size) (hn : cs.length < 1099511627776) (hl : ∀ c ∈ cs, c.length < 1099511627776) :
    Calls Try.prog 11 #[v] w fun e w' => ∃ v', e = .returned v' ∧ AllRow w' w.heap.size (fun k => w.heap.size ≤ k) v' cs ∧ Fr (fun _ => False) w w' := by
  obtain ⟨A, cap, rfl, hc⟩ := h
  refine calls_of_FC (N := 21) (vs := [.slice A cs.length cap]) Try.func11 rfl Try.ntmps11 (Nat.le_of_ble_eq_true rfl) ?_
  refine FC.seq (FC.region ?_)
  refine FL.pur rfl rfl (p_assign rfl) ?_
  refine FL.nilK ?_
  refine FC.seq (FC.region ?_)
  refine FL.pur rfl rfl (p_assign rfl) ?_
  refine FL.nilK ?_
  refine FC.cut (σ := Value) (fun v => [(3, v)]) (fun v w2 => AllRow w2 w.heap.size (fun k => w.heap.size ≤ k) v cs ∧ Fr (fun _ => False) w w2) ?_ ?_
  · refine FC.seq (FC.region ?_)
    refine FL.pur rfl rfl (p_assign rfl) ?_
    refine FL.nilK ?_
    refine FC.block ?_
    refine FC.loop (σ := Nat × Value) (fun x => [(0, .slice A cs.length cap), (3, x.2), (4, .int .i64 x.1)]) (fun x w2 => x.1 ≤ cs.length ∧ AllRow w2 w.heap.size (fun k => w.heap.size ≤ k) x.2 (cs.take x.1) ∧ Fr (fun _ => False) w w2) (fun x => cs.length - x.1) (0, .slice none 0 0) ⟨Nat.zero_le _, by rw [List.take_zero]; exact AllRow.nil rfl, Fr.refl _ _⟩ ⟨rfl, rfl, rfl, trivial⟩ ?_
    rintro ⟨i, v⟩ w2 ⟨hi, hall, hf⟩
    simp only at hi hall hf ⊢
    refine FC.seq ?_
    refine FC.seq (FC.region ?_)
    refine FL.pur rfl rfl (p_move rfl) ?_
    refine FL.pur rfl rfl (p_move rfl) ?_
    refine FL.pur rfl rfl (p_len rfl Try.underlying22) ?_
    refine FL.pur rfl rfl (p_lss rfl rfl rfl) ?_
    refine FL.nilK ?_
    refine FC.cond (decide ((i : Int) < (cs.length : Int))) rfl (fun hcc => FC.skip (thn_normal ?_)) (fun hcc => FC.exit ?_)
    rotate_left
    · have hge : ¬ (i : Int) < (cs.length : Int) := of_decide_eq_false hcc
      rw [List.take_of_length_le (by omega)] at hall
      exact thn_exit (thn_exit (blk_exit ⟨v, ⟨rfl, trivial⟩, hall, hf⟩))
    have hlt : i < cs.length := by have := of_decide_eq_true hcc; omega
    obtain ⟨ad, u, rfl, hadB, hcu, hru⟩ := hc i hlt
    have hcu : (w2.alloc (.cells #[] 3)).cell? (ad.add (i : Int).toNat) = some u := cell_alloc (hf.cell hcu fun h => h) _
    have hru := hru.fr hf fun _ _ h => h
    have hq := hl _ (mem_getD (d := []) hlt)
    refine FC.seq ?_
    refine FC.block ?_
    refine FC.region ?_
    refine FL.pur rfl rfl (p_move rfl) ?_
    refine FL.val _ _ rfl rfl bld41_0 ?_
    refine FL.pur rfl rfl (p_move rfl) ?_
    refine FL.pur rfl rfl (p_move rfl) ?_
    refine FL.pur rfl rfl (p_indexA rfl rfl Try.underlying22 inf41_eq inf41_size (by omega) (by omega)) ?_
    refine FL.val _ _ rfl rfl (p_load rfl Try.underlying41 rfl hcu) ?_
    refine FL.valG _ rfl rfl (copy_row hru hq rfl rfl) ?_
    rintro u3 w3 ⟨ho, f3⟩
    have hv3 : u3.cells = #[u3] := by obtain ⟨A', c', rfl⟩ := own_slice ho; rfl
    refine FL.val _ _ rfl rfl (bld22 rfl hv3) ?_
    have hall3 := hall.fr f3 (fun _ _ h => h) (fun _ _ h => h)
    have hr3 : RowP w3 (fun k => w.heap.size ≤ k ∧ ¬ v.ownBlock = some k) u3 (cs.getD i []) := (rowP_own ho).mono fun k hk _ => ⟨Nat.le_trans hf.size hk.1, fun e => by have := (hall.out.choose_spec.1.lt k e).2; omega⟩
    refine FL.valG _ rfl rfl (hall3.app (by have := hf.size; have := f3.size; omega) (by simp; omega) hr3 rfl rfl) ?_
    rintro v4 w4 ⟨hall4, f4, _⟩
    refine FL.pur rfl rfl (p_assign rfl) ?_
    refine FL.nil ?_
    refine blk_normal (thn_normal ?_)
    refine FC.region ?_
    refine FL.pur rfl rfl (p_move rfl) ?_
    refine FL.pur rfl rfl (p_add rfl rfl ((wr (by omega) (by omega)).trans (show (i : Int) + 1 = ((i + 1 : Nat) : Int) by omega))) ?_
    refine FL.pur rfl rfl (p_assign rfl) ?_
    refine FL.nil ?_
    exact ⟨(i + 1, v4), ⟨rfl, rfl, rfl, trivial⟩, ⟨hlt, by rw [take_snoc cs i hlt]; exact hall4, (hf.trans f3 fun _ h => h.elim).trans f4 fun k hk => .inr (hall.out.choose_spec.1.lt k hk).1⟩, by show cs.length - (i + 1) < cs.length - i; omega⟩
  rintro v w2 ⟨hall, hf⟩
  refine FC.seq (FC.region ?_)
  refine FL.pur rfl rfl (p_move rfl) ?_
  refine FL.pur rfl rfl (p_assign rfl) ?_
  refine FL.nilK ?_
  refine FC.ret ?_
  repeat (first | with_reducible refine thn_ret ?_ | with_reducible refine blk_ret ?_ | with_reducible refine nog_ret ?_)
  exact ret1 Try.results11 rfl ⟨v, rfl, hall, hf⟩
theorem true_calls {v : Value} (h : BRow w B v bs) (hl : bs.length < 4611686018427387904) (l : Int) (hl1 : -9223372036854775808 ≤ l) (hl2 : l < 9223372036854775808) :
    Calls Try.prog 29 #[.int .i64 l, v] w fun e w' => e = .returned (.bool (isB bs l)) ∧ w = w' := by
  obtain ⟨A, cap, rfl, hcell⟩ := h
  refine calls_of_FC (N := 34) (vs := [.int .i64 l, .slice A bs.length cap]) Try.func29 rfl Try.ntmps29 (Nat.le_of_ble_eq_true rfl) ?_
  refine FC.seq (FC.region ?_)
  refine FL.pur rfl rfl (p_assign rfl) ?_
  refine FL.nilK ?_
  refine FC.seq ?_
  by_cases c1 : 0 < l ∧ l ≤ bs.length
  · obtain ⟨ad, rfl, _, hc⟩ := hcell (l - 1).toNat (by omega)
    refine FC.seq (FC.region ?_)
    refine FL.pur rfl rfl (p_move rfl) ?_
    refine FL.pur rfl rfl (p_gtr rfl rfl (decide_eq_true c1.1)) ?_
    refine FL.pur rfl rfl (p_move rfl) ?_
    refine FL.pur rfl rfl (p_move rfl) ?_
    refine FL.pur rfl rfl (p_move rfl) ?_
    refine FL.pur rfl rfl (p_len rfl Try.underlying23) ?_
    refine FL.pur rfl rfl (p_leq rfl rfl (decide_eq_true c1.2)) ?_
    refine FL.pur rfl rfl (p_pick_t rfl rfl) ?_
    refine FL.nilK ?_
    refine FC.cond_t rfl ?_
    refine FC.seq (FC.region ?_)
    refine FL.pur rfl rfl (p_move rfl) ?_
    refine FL.pur rfl rfl (p_move rfl) ?_
    refine FL.pur rfl rfl (p_sub rfl rfl (wr (by omega) (by omega))) ?_
    refine FL.pur rfl rfl (p_indexA rfl rfl Try.underlying23 inf4_eq inf4_size (by omega) (by omega)) ?_
    refine FL.val _ _ rfl rfl (p_load rfl Try.underlying4 rfl hc) ?_
    refine FL.pur rfl rfl (p_assign rfl) ?_
    refine FL.nilK ?_
    refine FC.ret ?_
    repeat (first | with_reducible refine thn_ret ?_ | with_reducible refine blk_ret ?_ | with_reducible refine nog_ret ?_)
    exact ret1 Try.results29 rfl ⟨by unfold isB; rw [if_pos c1], rfl⟩
  by_cases c2 : 0 < l
  · refine FC.seq (FC.region ?_)
    refine FL.pur rfl rfl (p_move rfl) ?_
    refine FL.pur rfl rfl (p_gtr rfl rfl (decide_eq_true c2)) ?_
    refine FL.pur rfl rfl (p_move rfl) ?_
    refine FL.pur rfl rfl (p_move rfl) ?_
    refine FL.pur rfl rfl (p_move rfl) ?_
    refine FL.pur rfl rfl (p_len rfl Try.underlying23) ?_
    refine FL.pur rfl rfl (p_leq rfl rfl (decide_eq_false (by omega))) ?_
    refine FL.pur rfl rfl (p_pick_t rfl rfl) ?_
    refine FL.nilK ?_
    refine FC.cond_f rfl (FC.skip (thn_normal ?_))
    refine FC.seq ?_
    refine FC.seq (FC.region ?_)
    refine FL.pur rfl rfl (p_move rfl) ?_
    refine FL.pur rfl rfl (p_lss rfl rfl (decide_eq_false (by omega))) ?_
    refine FL.pur rfl rfl (p_move rfl) ?_
    refine FL.off rfl rfl ?_
    refine FL.off rfl rfl ?_
    refine FL.off rfl rfl ?_
    refine FL.off rfl rfl ?_
    refine FL.off rfl rfl ?_
    refine FL.pur rfl rfl (p_pick_f rfl rfl) ?_
    refine FL.nilK ?_
    refine FC.cond_f rfl (FC.skip (thn_normal ?_))
    refine FC.seq (FC.region ?_)
    refine FL.pur rfl rfl (p_assign rfl) ?_
    refine FL.nilK ?_
    refine FC.ret ?_
    repeat (first | with_reducible refine thn_ret ?_ | with_reducible refine blk_ret ?_ | with_reducible refine nog_ret ?_)
    exact ret1 Try.results29 rfl ⟨by unfold isB; rw [if_neg c1, if_neg (by omega)], rfl⟩
  by_cases c3 : l < 0 ∧ -(bs.length : Int) ≤ l
  · obtain ⟨ad, rfl, _, hc⟩ := hcell (-l - 1).toNat (by omega)
    refine FC.seq (FC.region ?_)
    refine FL.pur rfl rfl (p_move rfl) ?_
    refine FL.pur rfl rfl (p_gtr rfl rfl (decide_eq_false c2)) ?_
    refine FL.pur rfl rfl (p_move rfl) ?_
    refine FL.off rfl rfl ?_
    refine FL.off rfl rfl ?_
    refine FL.off rfl rfl ?_
    refine FL.off rfl rfl ?_
    refine FL.pur rfl rfl (p_pick_f rfl rfl) ?_
    refine FL.nilK ?_
    refine FC.cond_f rfl (FC.skip (thn_normal ?_))
    refine FC.seq ?_
    refine FC.seq (FC.region ?_)
    refine FL.pur rfl rfl (p_move rfl) ?_
    refine FL.pur rfl rfl (p_lss rfl rfl (decide_eq_true c3.1)) ?_
    refine FL.pur rfl rfl (p_move rfl) ?_
    refine FL.pur rfl rfl (p_move rfl) ?_
    refine FL.pur rfl rfl (p_move rfl) ?_
    refine FL.pur rfl rfl (p_len rfl Try.underlying23) ?_
    refine FL.pur rfl rfl (p_neg rfl (wr (by omega) (by omega))) ?_
    refine FL.pur rfl rfl (p_geq rfl rfl (decide_eq_true c3.2)) ?_
    refine FL.pur rfl rfl (p_pick_t rfl rfl) ?_
    refine FL.nilK ?_
    refine FC.cond_t rfl ?_
    refine FC.seq (FC.region ?_)
    refine FL.pur rfl rfl (p_move rfl) ?_
    refine FL.pur rfl rfl (p_move rfl) ?_
    refine FL.pur rfl rfl (p_neg rfl (wr (by omega) (by omega))) ?_
    refine FL.pur rfl rfl (p_sub rfl rfl (wr (by omega) (by omega))) ?_
    refine FL.pur rfl rfl (p_indexA rfl rfl Try.underlying23 inf4_eq inf4_size (by omega) (by omega)) ?_
    refine FL.val _ _ rfl rfl (p_load rfl Try.underlying4 rfl hc) ?_
    refine FL.pur rfl rfl (p_not rfl) ?_
    refine FL.pur rfl rfl (p_assign rfl) ?_
    refine FL.nilK ?_
    refine FC.ret ?_
    repeat (first | with_reducible refine thn_ret ?_ | with_reducible refine blk_ret ?_ | with_reducible refine nog_ret ?_)
    exact ret1 Try.results29 rfl ⟨by unfold isB; rw [if_neg c1, if_pos c3], rfl⟩
  by_cases c4 : l < 0
  · refine FC.seq (FC.region ?_)
    refine FL.pur rfl rfl (p_move rfl) ?_
    refine FL.pur rfl rfl (p_gtr rfl rfl (decide_eq_false c2)) ?_
    refine FL.pur rfl rfl (p_move rfl) ?_
    refine FL.off rfl rfl ?_
    refine FL.off rfl rfl ?_
    refine FL.off rfl rfl ?_
    refine FL.off rfl rfl ?_
    refine FL.pur rfl rfl (p_pick_f rfl rfl) ?_
    refine FL.nilK ?_
    refine FC.cond_f rfl (FC.skip (thn_normal ?_))
    refine FC.seq ?_
    refine FC.seq (FC.region ?_)
    refine FL.pur rfl rfl (p_move rfl) ?_
    refine FL.pur rfl rfl (p_lss rfl rfl (decide_eq_true c4)) ?_
    refine FL.pur rfl rfl (p_move rfl) ?_
    refine FL.pur rfl rfl (p_move rfl) ?_
    refine FL.pur rfl rfl (p_move rfl) ?_
    refine FL.pur rfl rfl (p_len rfl Try.underlying23) ?_
    refine FL.pur rfl rfl (p_neg rfl (wr (by omega) (by omega))) ?_
    refine FL.pur rfl rfl (p_geq rfl rfl (decide_eq_false (by omega))) ?_
    refine FL.pur rfl rfl (p_pick_t rfl rfl) ?_
    refine FL.nilK ?_
    refine FC.cond_f rfl (FC.skip (thn_normal ?_))
    refine FC.seq (FC.region ?_)
    refine FL.pur rfl rfl (p_assign rfl) ?_
    refine FL.nilK ?_
    refine FC.ret ?_
    repeat (first | with_reducible refine thn_ret ?_ | with_reducible refine blk_ret ?_ | with_reducible refine nog_ret ?_)
    exact ret1 Try.results29 rfl ⟨by unfold isB; rw [if_neg c1, if_neg c3], rfl⟩
  · refine FC.seq (FC.region ?_)
    refine FL.pur rfl rfl (p_move rfl) ?_
    refine FL.pur rfl rfl (p_gtr rfl rfl (decide_eq_false c2)) ?_
    refine FL.pur rfl rfl (p_move rfl) ?_
    refine FL.off rfl rfl ?_
    refine FL.off rfl rfl ?_
    refine FL.off rfl rfl ?_
    refine FL.off rfl rfl ?_
    refine FL.pur rfl rfl (p_pick_f rfl rfl) ?_
    refine FL.nilK ?_
    refine FC.cond_f rfl (FC.skip (thn_normal ?_))
    refine FC.seq ?_
    refine FC.seq (FC.region ?_)
    refine FL.pur rfl rfl (p_move rfl) ?_
    refine FL.pur rfl rfl (p_lss rfl rfl (decide_eq_false c4)) ?_
    refine FL.pur rfl rfl (p_move rfl) ?_
    refine FL.off rfl rfl ?_
    refine FL.off rfl rfl ?_
    refine FL.off rfl rfl ?_
    refine FL.off rfl rfl ?_
    refine FL.off rfl rfl ?_
    refine FL.pur rfl rfl (p_pick_f rfl rfl) ?_
    refine FL.nilK ?_
    refine FC.cond_f rfl (FC.skip (thn_normal ?_))
    refine FC.seq (FC.region ?_)
    refine FL.pur rfl rfl (p_assign rfl) ?_
    refine FL.nilK ?_
    refine FC.ret ?_
    repeat (first | with_reducible refine thn_ret ?_ | with_reducible refine blk_ret ?_ | with_reducible refine nog_ret ?_)
    exact ret1 Try.results29 rfl ⟨by unfold isB; rw [if_neg c1, if_neg c3], rfl⟩
set_option maxHeartbeats 1000000 in
theorem refholds_calls {v u : Value} (h : Rws w B v cs) (hb : BRow w B u bs) (hl : cs.length < 4611686018427387904) (hll : ∀ c ∈ cs, c.length < 4611686018427387904 ∧ Small64 c) (hbl : bs.length < 4611686018427387904) :
    Calls Try.prog 15 #[v, u] w fun e w' => e = .returned (.bool (cs.all fun c => c.any (isB bs))) ∧ w = w' := by
  obtain ⟨A, cap, rfl, hc⟩ := h
  refine calls_of_FC (N := 37) (vs := [.slice A cs.length cap, u]) Try.func15 rfl Try.ntmps15 (Nat.le_of_ble_eq_true rfl) ?_
  refine FC.seq (FC.region ?_)
  refine FL.pur rfl rfl (p_assign rfl) ?_
  refine FL.nilK ?_
  refine FC.cut (σ := Unit) (fun _ => []) (fun _ w2 => w = w2 ∧ (cs.all fun c => c.any (isB bs)) = true) ?_ ?_
  · refine FC.seq (FC.region ?_)
    refine FL.pur rfl rfl (p_assign rfl) ?_
    refine FL.nilK ?_
    refine FC.block ?_
    refine FC.loop (σ := Nat) (fun i => [(0, .slice A cs.length cap), (1, u), (5, .int .i64 i)]) (fun i w2 => w = w2 ∧ i ≤ cs.length ∧ ((cs.take i).all fun c => c.any (isB bs)) = true) (fun i => cs.length - i) 0 ⟨rfl, Nat.zero_le _, rfl⟩ ⟨rfl, rfl, rfl, trivial⟩ ?_
    rintro i w2 ⟨rfl, hi, hno⟩
    refine FC.seq ?_
    refine FC.seq (FC.region ?_)
    refine FL.pur rfl rfl (p_move rfl) ?_
    refine FL.pur rfl rfl (p_move rfl) ?_
    refine FL.pur rfl rfl (p_len rfl Try.underlying22) ?_
    refine FL.pur rfl rfl (p_lss rfl rfl rfl) ?_
    refine FL.nilK ?_
    refine FC.cond (decide ((i : Int) < (cs.length : Int))) rfl (fun hcc => FC.skip (thn_normal ?_)) (fun hcc => FC.exit ?_)
    rotate_left
    · have hge : ¬ (i : Int) < (cs.length : Int) := of_decide_eq_false hcc
      rw [List.take_of_length_le (by omega)] at hno
      exact thn_exit (thn_exit (blk_exit ⟨(), trivial, rfl, hno⟩))
    have hlt : i < cs.length := by have := of_decide_eq_true hcc; omega
    obtain ⟨ad, z, rfl, _, hcu, A2, cap2, rfl, hc2⟩ := hc i hlt
    have hcu : w.cell? (ad.add (i : Int).toNat) = _ := hcu
    have hst := all_take (fun c => c.any (isB bs)) [] cs i hlt hno
    have hq := hll _ (mem_getD (d := []) hlt)
    obtain ⟨d, hd⟩ : ∃ d, d = cs.getD i [] := ⟨_, rfl⟩
    rw [← hd] at hcu hc2 hq hst
    refine FC.seq ?_
    refine FC.block ?_
    refine FC.seq (FC.region ?_)
    refine FL.pur rfl rfl (p_assign rfl) ?_
    refine FL.nilK ?_
    refine FC.cut (σ := Unit) (fun _ => [(0, .slice (some ad) cs.length cap), (1, u), (5, .int .i64 i), (6, .bool (d.any (isB bs)))]) (fun _ w2 => w = w2) ?_ ?_
    · refine FC.seq (FC.region ?_)
      refine FL.pur rfl rfl (p_assign rfl) ?_
      refine FL.nilK ?_
      refine FC.block ?_
      refine FC.loop (σ := Nat) (fun j => [(0, .slice (some ad) cs.length cap), (1, u), (5, .int .i64 i), (6, .bool ((d.take j).any (isB bs))), (7, .int .i64 j)]) (fun j w2 => w = w2 ∧ j ≤ d.length) (fun j => d.length - j) 0 ⟨rfl, Nat.zero_le _⟩ ⟨rfl, rfl, rfl, rfl, rfl, trivial⟩ ?_
      rintro j w2 ⟨rfl, hj⟩
      refine FC.seq ?_
      refine FC.seq (FC.region ?_)
      refine FL.pur rfl rfl (p_move rfl) ?_
      refine FL.pur rfl rfl (p_move rfl) ?_
      refine FL.pur rfl rfl (p_move rfl) ?_
      refine FL.pur rfl rfl (p_indexA rfl rfl Try.underlying22 inf41_eq inf41_size (by omega) (by omega)) ?_
      refine FL.val _ _ rfl rfl (p_load rfl Try.underlying41 rfl hcu) ?_
      refine FL.pur rfl rfl (p_len rfl Try.underlying41) ?_
      refine FL.pur rfl rfl (p_lss rfl rfl rfl) ?_
      refine FL.nilK ?_
      refine FC.cond (decide ((j : Int) < (d.length : Int))) rfl (fun hcc => FC.skip (thn_normal ?_)) (fun hcc => FC.exit ?_)
      rotate_left
      · have hge : ¬ (j : Int) < (d.length : Int) := of_decide_eq_false hcc
        rw [List.take_of_length_le (by omega)]
        exact thn_exit (thn_exit (blk_exit ⟨(), ⟨rfl, rfl, rfl, rfl, trivial⟩, rfl⟩))
      have hjt : j < d.length := by have := of_decide_eq_true hcc; omega
      obtain ⟨ad2, rfl, _, hcl⟩ := hc2 j hjt
      have hcl : w.cell? (ad2.add (j : Int).toNat) = some (.int .i64 (g d j)) := hcl
      have hs := hq.2 _ (rd_mem d j (by omega) (by omega))
      have kt := true_calls (B := B) hb hbl (g d j) hs.1 hs.2
      refine FC.seq ?_
      refine FC.block ?_
      cases hb1 : (d.take j).any (isB bs) with
      | true =>
        refine FC.region ?_
        refine FL.pur rfl rfl (p_move rfl) ?_
        refine FL.pur rfl rfl (p_move rfl) ?_
        refine FL.off rfl rfl ?_
        refine FL.off rfl rfl ?_
        refine FL.off rfl rfl ?_
        refine FL.off rfl rfl ?_
        refine FL.off rfl rfl ?_
        refine FL.off rfl rfl ?_
        refine FL.off rfl rfl ?_
        refine FL.off rfl rfl ?_
        refine FL.off rfl rfl ?_
        refine FL.pur rfl rfl (p_pick_t rfl rfl) ?_
        refine FL.pur rfl rfl (p_assign rfl) ?_
        refine FL.nil ?_
        refine blk_normal (thn_normal ?_)
        refine FC.region ?_
        refine FL.pur rfl rfl (p_move rfl) ?_
        refine FL.pur rfl rfl (p_add rfl rfl ((wr (by omega) (by omega)).trans (show (j : Int) + 1 = ((j + 1 : Nat) : Int) by omega))) ?_
        refine FL.pur rfl rfl (p_assign rfl) ?_
        refine FL.nil ?_
        have e : (d.take (j + 1)).any (isB bs) = true := by rw [List.take_add_one, List.any_append, hb1, Bool.true_or]
        exact ⟨j + 1, ⟨rfl, rfl, rfl, by rw [e]; rfl, rfl, trivial⟩, ⟨rfl, hjt⟩, by show d.length - (j + 1) < d.length - j; omega⟩
      | false =>
        refine FC.region ?_
        refine FL.pur rfl rfl (p_move rfl) ?_
        refine FL.pur rfl rfl (p_move rfl) ?_
        refine FL.pur rfl rfl (p_move rfl) ?_
        refine FL.pur rfl rfl (p_move rfl) ?_
        refine FL.pur rfl rfl (p_indexA rfl rfl Try.underlying22 inf41_eq inf41_size (by omega) (by omega)) ?_
        refine FL.val _ _ rfl rfl (p_load rfl Try.underlying41 rfl hcu) ?_
        refine FL.pur rfl rfl (p_move rfl) ?_
        refine FL.pur rfl rfl (p_indexA rfl rfl Try.underlying41 inf3_eq inf3_size (by omega) (by omega)) ?_
        refine FL.val _ _ rfl rfl (p_load rfl Try.underlying3 rfl hcl) ?_
        refine FL.pur rfl rfl (p_move rfl) ?_
        refine FL.call rfl rfl (p_call Try.func29 rfl rfl rfl) (kt) ?_
        rintro e_ w_ ⟨rfl, rfl⟩
        refine ⟨_, rfl, ?_⟩
        refine FL.pur rfl rfl (p_pick_f rfl rfl) ?_
        refine FL.pur rfl rfl (p_assign rfl) ?_
        refine FL.nil ?_
        refine blk_normal (thn_normal ?_)
        refine FC.region ?_
        refine FL.pur rfl rfl (p_move rfl) ?_
        refine FL.pur rfl rfl (p_add rfl rfl ((wr (by omega) (by omega)).trans (show (j : Int) + 1 = ((j + 1 : Nat) : Int) by omega))) ?_
        refine FL.pur rfl rfl (p_assign rfl) ?_
        refine FL.nil ?_
        have e := any_take' (isB bs) d j hjt hb1
        exact ⟨j + 1, ⟨rfl, rfl, rfl, by rw [e]; rfl, rfl, trivial⟩, ⟨rfl, hjt⟩, by show d.length - (j + 1) < d.length - j; omega⟩
    rintro - w2 rfl
    refine FC.seq (FC.region ?_)
    refine FL.pur rfl rfl (p_move rfl) ?_
    refine FL.pur rfl rfl (p_not rfl) ?_
    refine FL.nilK ?_
    refine FC.cond (!(d.any (isB bs))) rfl (fun hcc => ?_) (fun hcc => FC.skip ?_)
    · refine FC.seq (FC.region ?_)
      refine FL.pur rfl rfl (p_assign rfl) ?_
      refine FL.nilK ?_
      refine FC.ret ?_
      repeat (first | with_reducible refine thn_ret ?_ | with_reducible refine blk_ret ?_ | with_reducible refine nog_ret ?_)
      refine ret1 Try.results15 rfl ⟨?_, rfl⟩
      have hno : (cs.all fun c => c.any (isB bs)) = false := by
        rw [Bool.eq_false_iff]
        intro hall
        have := List.all_eq_true.1 hall _ (mem_getD (d := []) hlt)
        rw [← hd] at this
        rw [this] at hcc; cases hcc
      rw [hno]
    · have hcc : d.any (isB bs) = true := by simpa using hcc
      refine blk_normal (thn_normal ?_)
      refine FC.region ?_
      refine FL.pur rfl rfl (p_move rfl) ?_
      refine FL.pur rfl rfl (p_add rfl rfl ((wr (by omega) (by omega)).trans (show (i : Int) + 1 = ((i + 1 : Nat) : Int) by omega))) ?_
      refine FL.pur rfl rfl (p_assign rfl) ?_
      refine FL.nil ?_
      exact ⟨i + 1, ⟨rfl, rfl, rfl, trivial⟩, ⟨rfl, hlt, hst.trans hcc⟩, by show cs.length - (i + 1) < cs.length - i; omega⟩
  rintro - w2 ⟨rfl, hn⟩
  refine FC.seq (FC.region ?_)
  refine FL.pur rfl rfl (p_assign rfl) ?_
  refine FL.nilK ?_
  refine FC.ret ?_
  repeat (first | with_reducible refine thn_ret ?_ | with_reducible refine blk_ret ?_ | with_reducible refine nog_ret ?_)
  exact ret1 Try.results15 rfl ⟨by rw [hn], rfl⟩
set_option maxHeartbeats 1000000 in
theorem same_calls {v u : Value} (h : Rws w B v cs) (h2 : Rws w B u cs) (hn : cs.length < 4611686018427387904) (hl : ∀ c ∈ cs, c.length < 4611686018427387904) :
    Calls Try.prog 18 #[v, u] w fun e w' => e = .returned (.bool true) ∧ Fr (fun _ => False) w w' := by
  obtain ⟨A, cap, rfl, hc⟩ := h
  obtain ⟨A2, cap2, rfl, hc2⟩ := h2
  refine calls_of_FC (N := 53) (vs := [.slice A cs.length cap, .slice A2 cs.length cap2]) Try.func18 rfl Try.ntmps18 (Nat.le_of_ble_eq_true rfl) ?_
  refine FC.seq (FC.region ?_)
  refine FL.pur rfl rfl (p_assign rfl) ?_
  refine FL.nilK ?_
  refine FC.seq ?_
  refine FC.seq (FC.region ?_)
  refine FL.pur rfl rfl (p_move rfl) ?_
  refine FL.pur rfl rfl (p_len rfl Try.underlying22) ?_
  refine FL.pur rfl rfl (p_move rfl) ?_
  refine FL.pur rfl rfl (p_len rfl Try.underlying22) ?_
  refine FL.pur rfl rfl (p_neq rfl rfl (show _ = !false by simp)) ?_
  refine FL.nilK ?_
  refine FC.cond_f rfl (FC.skip (thn_normal ?_))
  refine FC.cut (σ := Unit) (fun _ => []) (fun _ w2 => Fr (fun _ => False) w w2) ?_ ?_
  · refine FC.seq (FC.region ?_)
    refine FL.pur rfl rfl (p_assign rfl) ?_
    refine FL.nilK ?_
    refine FC.block ?_
    refine FC.loop (σ := Nat) (fun i => [(0, .slice A cs.length cap), (1, .slice A2 cs.length cap2), (5, .int .i64 i)]) (fun i w2 => Fr (fun _ => False) w w2 ∧ i ≤ cs.length) (fun i => cs.length - i) 0 ⟨Fr.refl _ _, Nat.zero_le _⟩ ⟨rfl, rfl, rfl, trivial⟩ ?_
    rintro i w2 ⟨hf, hi⟩
    refine FC.seq ?_
    refine FC.seq (FC.region ?_)
    refine FL.pur rfl rfl (p_move rfl) ?_
    refine FL.pur rfl rfl (p_move rfl) ?_
    refine FL.pur rfl rfl (p_len rfl Try.underlying22) ?_
    refine FL.pur rfl rfl (p_lss rfl rfl rfl) ?_
    refine FL.nilK ?_
    refine FC.cond (decide ((i : Int) < (cs.length : Int))) rfl (fun hcc => FC.skip (thn_normal ?_)) (fun hcc => FC.exit ?_)
    rotate_left
    · exact thn_exit (thn_exit (blk_exit ⟨(), trivial, hf⟩))
    have hlt : i < cs.length := by have := of_decide_eq_true hcc; omega
    obtain ⟨ad, z, rfl, _, hcu, A3, cap3, rfl, hc3⟩ := hc i hlt
    obtain ⟨ad', z', rfl, _, hcu', A4, cap4, rfl, hc4⟩ := hc2 i hlt
    have hq := hl _ (mem_getD (d := []) hlt)
    obtain ⟨d, hd⟩ : ∃ d, d = cs.getD i [] := ⟨_, rfl⟩
    rw [← hd] at hcu hcu' hc3 hc4 hq
    refine FC.seq ?_
    refine FC.block ?_
    refine FC.seq ?_
    have hf := hf.drew
    have hSS := And.intro (hf.cell hcu fun h => h) (hf.cell hcu' fun h => h)
    refine FC.seq (FC.draw (fun w => w.cell? (ad.add (i : Int).toNat) = some (.slice A3 d.length cap3) ∧ w.cell? (ad'.add (i : Int).toNat) = some (.slice A4 d.length cap4)) [10] #[false, false, false, false, false, false, false, false, false, false, false] (by kernel_rfl) rfl rfl hSS ?_)
    refine FA.pur (i := 0) #[true, false, false, false, false, false, false, false, false, false, false] rfl (by kernel_rfl) rfl rfl (p_move rfl) ?_
    refine FA.pur (i := 1) #[true, true, false, false, false, false, false, false, false, false, false] rfl (by kernel_rfl) rfl rfl (p_move rfl) ?_
    refine FA.pur (i := 2) #[true, true, true, false, false, false, false, false, false, false, false] rfl (by kernel_rfl) rfl rfl (p_indexA rfl rfl Try.underlying22 inf41_eq inf41_size (by omega) (by omega)) ?_
    refine FA.pur (i := 5) #[true, true, true, false, false, true, false, false, false, false, false] rfl (by kernel_rfl) rfl rfl (p_move rfl) ?_
    refine FA.pur (i := 6) #[true, true, true, false, false, true, true, false, false, false, false] rfl (by kernel_rfl) rfl rfl (p_move rfl) ?_
    refine FA.pur (i := 7) #[true, true, true, false, false, true, true, true, false, false, false] rfl (by kernel_rfl) rfl rfl (p_indexA rfl rfl Try.underlying22 inf41_eq inf41_size (by omega) (by omega)) ?_
    refine FA.lod (i := 3) #[true, true, true, true, false, true, true, true, false, false, false] rfl (by kernel_rfl) rfl rfl hSS (fun _ hs => p_load rfl Try.underlying41 rfl hs.1) ?_
    refine FA.pur (i := 4) #[true, true, true, true, true, true, true, true, false, false, false] rfl (by kernel_rfl) rfl rfl (p_len rfl Try.underlying41) ?_
    refine FA.lod (i := 8) #[true, true, true, true, true, true, true, true, true, false, false] rfl (by kernel_rfl) rfl rfl hSS (fun _ hs => p_load rfl Try.underlying41 rfl hs.2) ?_
    refine FA.pur (i := 9) #[true, true, true, true, true, true, true, true, true, true, false] rfl (by kernel_rfl) rfl rfl (p_len rfl Try.underlying41) ?_
    refine FA.pur (i := 10) #[true, true, true, true, true, true, true, true, true, true, true] rfl (by kernel_rfl) rfl rfl (p_neq rfl rfl (show _ = !false by simp)) ?_
    refine FA.doneK (by kernel_rfl) ?_
    refine FC.cond_f rfl (FC.skip (thn_normal ?_))
    refine FC.seq (FC.region ?_)
    refine FL.pur rfl rfl (p_assign rfl) ?_
    refine FL.nilK ?_
    refine FC.block ?_
    refine FC.loop (σ := Nat) (fun j => [(0, .slice (some ad) cs.length cap), (1, .slice (some ad') cs.length cap2), (5, .int .i64 i), (6, .int .i64 j)]) (fun j w2 => Fr (fun _ => False) w w2 ∧ j ≤ d.length) (fun j => d.length - j) 0 ⟨hf, Nat.zero_le _⟩ ⟨rfl, rfl, rfl, rfl, trivial⟩ ?_
    clear hSS hf
    rintro j w3 ⟨hf, hj⟩
    refine FC.seq ?_
    have hcu1 : w3.cell? (ad.add (i : Int).toNat) = _ := hf.cell hcu fun h => h
    refine FC.seq (FC.region ?_)
    refine FL.pur rfl rfl (p_move rfl) ?_
    refine FL.pur rfl rfl (p_move rfl) ?_
    refine FL.pur rfl rfl (p_move rfl) ?_
    refine FL.pur rfl rfl (p_indexA rfl rfl Try.underlying22 inf41_eq inf41_size (by omega) (by omega)) ?_
    refine FL.val _ _ rfl rfl (p_load rfl Try.underlying41 rfl hcu1) ?_
    refine FL.pur rfl rfl (p_len rfl Try.underlying41) ?_
    refine FL.pur rfl rfl (p_lss rfl rfl rfl) ?_
    refine FL.nilK ?_
    refine FC.cond (decide ((j : Int) < (d.length : Int))) rfl (fun hcc => FC.skip (thn_normal ?_)) (fun hcc => FC.exit ?_)
    rotate_left
    · refine thn_exit (thn_exit (blk_exit (blk_normal (thn_normal ?_))))
      refine FC.region ?_
      refine FL.pur rfl rfl (p_move rfl) ?_
      refine FL.pur rfl rfl (p_add rfl rfl ((wr (by omega) (by omega)).trans (show (i : Int) + 1 = ((i + 1 : Nat) : Int) by omega))) ?_
      refine FL.pur rfl rfl (p_assign rfl) ?_
      refine FL.nil ?_
      exact ⟨i + 1, ⟨rfl, rfl, rfl, trivial⟩, ⟨hf, hlt⟩, by show cs.length - (i + 1) < cs.length - i; omega⟩
    have hjt : j < d.length := by have := of_decide_eq_true hcc; omega
    obtain ⟨ae, rfl, _, hcl⟩ := hc3 j hjt
    obtain ⟨ae', rfl, _, hcl'⟩ := hc4 j hjt
    refine FC.seq ?_
    refine FC.block ?_
    have hf := hf.drew
    have hSS := And.intro (And.intro (hf.cell hcu fun h => h) (hf.cell hcu' fun h => h)) (And.intro (hf.cell hcl fun h => h) (hf.cell hcl' fun h => h))
    refine FC.seq (FC.draw (fun w => (w.cell? (ad.add (i : Int).toNat) = some (.slice (some ae) d.length cap3) ∧ w.cell? (ad'.add (i : Int).toNat) = some (.slice (some ae') d.length cap4)) ∧ w.cell? (ae.add (j : Int).toNat) = some (.int .i64 (g d j)) ∧ w.cell? (ae'.add (j : Int).toNat) = some (.int .i64 (g d j))) [14] #[false, false, false, false, false, false, false, false, false, false, false, false, false, false, false] (by kernel_rfl) rfl rfl hSS ?_)
    refine FA.pur (i := 0) #[true, false, false, false, false, false, false, false, false, false, false, false, false, false, false] rfl (by kernel_rfl) rfl rfl (p_move rfl) ?_
    refine FA.pur (i := 1) #[true, true, false, false, false, false, false, false, false, false, false, false, false, false, false] rfl (by kernel_rfl) rfl rfl (p_move rfl) ?_
    refine FA.pur (i := 2) #[true, true, true, false, false, false, false, false, false, false, false, false, false, false, false] rfl (by kernel_rfl) rfl rfl (p_indexA rfl rfl Try.underlying22 inf41_eq inf41_size (by omega) (by omega)) ?_
    refine FA.pur (i := 4) #[true, true, true, false, true, false, false, false, false, false, false, false, false, false, false] rfl (by kernel_rfl) rfl rfl (p_move rfl) ?_
    refine FA.pur (i := 7) #[true, true, true, false, true, false, false, true, false, false, false, false, false, false, false] rfl (by kernel_rfl) rfl rfl (p_move rfl) ?_
    refine FA.pur (i := 8) #[true, true, true, false, true, false, false, true, true, false, false, false, false, false, false] rfl (by kernel_rfl) rfl rfl (p_move rfl) ?_
    refine FA.pur (i := 9) #[true, true, true, false, true, false, false, true, true, true, false, false, false, false, false] rfl (by kernel_rfl) rfl rfl (p_indexA rfl rfl Try.underlying22 inf41_eq inf41_size (by omega) (by omega)) ?_
    refine FA.pur (i := 11) #[true, true, true, false, true, false, false, true, true, true, false, true, false, false, false] rfl (by kernel_rfl) rfl rfl (p_move rfl) ?_
    refine FA.lod (i := 3) #[true, true, true, true, true, false, false, true, true, true, false, true, false, false, false] rfl (by kernel_rfl) rfl rfl hSS (fun _ hs => p_load rfl Try.underlying41 rfl hs.1.1) ?_
    refine FA.pur (i := 5) #[true, true, true, true, true, true, false, true, true, true, false, true, false, false, false] rfl (by kernel_rfl) rfl rfl (p_indexA rfl rfl Try.underlying41 inf3_eq inf3_size (by omega) (by omega)) ?_
    refine FA.lod (i := 6) #[true, true, true, true, true, true, true, true, true, true, false, true, false, false, false] rfl (by kernel_rfl) rfl rfl hSS (fun _ hs => p_load rfl Try.underlying3 rfl hs.2.1) ?_
    refine FA.lod (i := 10) #[true, true, true, true, true, true, true, true, true, true, true, true, false, false, false] rfl (by kernel_rfl) rfl rfl hSS (fun _ hs => p_load rfl Try.underlying41 rfl hs.1.2) ?_
    refine FA.pur (i := 12) #[true, true, true, true, true, true, true, true, true, true, true, true, true, false, false] rfl (by kernel_rfl) rfl rfl (p_indexA rfl rfl Try.underlying41 inf3_eq inf3_size (by omega) (by omega)) ?_
    refine FA.lod (i := 13) #[true, true, true, true, true, true, true, true, true, true, true, true, true, true, false] rfl (by kernel_rfl) rfl rfl hSS (fun _ hs => p_load rfl Try.underlying3 rfl hs.2.2) ?_
    refine FA.pur (i := 14) #[true, true, true, true, true, true, true, true, true, true, true, true, true, true, true] rfl (by kernel_rfl) rfl rfl (p_neq rfl rfl (show _ = !false by simp)) ?_
    refine FA.doneK (by kernel_rfl) ?_
    refine FC.cond_f rfl (FC.skip ?_)
    refine blk_normal (thn_normal ?_)
    refine FC.region ?_
    refine FL.pur rfl rfl (p_move rfl) ?_
    refine FL.pur rfl rfl (p_add rfl rfl ((wr (by omega) (by omega)).trans (show (j : Int) + 1 = ((j + 1 : Nat) : Int) by omega))) ?_
    refine FL.pur rfl rfl (p_assign rfl) ?_
    refine FL.nil ?_
    exact ⟨j + 1, ⟨rfl, rfl, rfl, rfl, trivial⟩, ⟨hf, hjt⟩, by show d.length - (j + 1) < d.length - j; omega⟩
  rintro - w2 hf
  refine FC.seq (FC.region ?_)
  refine FL.pur rfl rfl (p_assign rfl) ?_
  refine FL.nilK ?_
  refine FC.ret ?_
  repeat (first | with_reducible refine thn_ret ?_ | with_reducible refine blk_ret ?_ | with_reducible refine nog_ret ?_)
  exact ret1 Try.results18 rfl ⟨rfl, hf⟩
end
end Go.Proofs.Ytcahhbcehnbdkaa.Sv

/- The walk of SolveChecks. -/
namespace Go.Proofs.Ytcahhbcehnbdkaa.Sv
open Go.RowKit Go.Proofs.YtcahhbcehnbdkaaW.PrintWords Go.Proofs.YtcahhbcehnbdkaaW.PrintLast Go.Proofs.Ytcahhbcehnbdkaa.Eng
section
variable {w w' : World} {v u : Value} {cs ps : List (List Int)} {bs : List Bool}
/-- Lengths within what a machine holds. -/
structure Sized (cs : List (List Int)) : Prop where
  n : cs.length < 5864062014805
  l : ∀ c ∈ cs, c.length < 17592186044416
theorem Sized.l62 (h : Sized cs) : ∀ c ∈ cs, c.length < 4611686018427387904 := fun c hc => by have := h.l c hc; omega
theorem Sized.n62 (h : Sized cs) : cs.length < 4611686018427387904 := by have := h.n; omega
theorem Fr.below' {F : Nat → Prop} (h : Fr F w w') (hF : ∀ k, F k → w.heap.size ≤ k) : Below w.heap.size w w' := ⟨h.os, h.tape, h.output, h.size, fun k hk => h.block k hk fun hf => by have := hF k hf; omega⟩
theorem Rws.go {B : Nat} (h : Rws w B v cs) (hf : Fr (fun _ => False) w w') : Rws w' B v cs := h.fr hf fun _ _ h => h
theorem BRow.mono {B B' : Nat} {v : Value} (h : BRow w B v bs) (hB : B ≤ B') : BRow w B' v bs := by
  obtain ⟨A, cap, rfl, h1⟩ := h
  refine ⟨A, cap, rfl, fun i hi => ?_⟩
  obtain ⟨ad, e1, e2, e3⟩ := h1 i hi
  exact ⟨ad, e1, by omega, e3⟩
theorem Fr.go {w1 w2 : World} (h : Fr (fun _ => False) w w1) (k : Fr (fun _ => False) w1 w2) : Fr (fun _ => False) w w2 := h.trans k fun _ h => h.elim
theorem p_eqlB {P : Program} {ρ : Env} {dst : Option Tmp} {ty : TypeId} {pos : String} {af : Array Edge} {gd : Option (Nat × Bool)} {x y : Operand} {t t' : TypeId} {m n b : Bool} (hx : ev ρ x = some (.bool m)) (hy : ev ρ y = some (.bool n)) (hu : P.underlying t = some .bool) (hr : decide (m = n) = b) : Pur P ρ ⟨dst, .binOp .eql t x y t', ty, pos, af, gd⟩ (.bool b) := fun w a ha => by
  subst hr
  have e : (m == n) = decide (m = n) := rfl
  have h1 : (Op.equalIn Op.maxDepth t (.bool m) (.bool n)).run P w = .ok (m == n) w := run_equalIn_bool w _ t m n hu
  simp [execOp, ha.ev hx, ha.ev hy, eqGuard, binOp, Op.equal, h1, e]
set_option maxHeartbeats 2000000 in
theorem checks_law {B : Nat} {u : Value} {A3 : Option Addr} {c3 : Nat} (a : Int) (ha : -9223372036854775808 ≤ a ∧ a < 9223372036854775808) (hB : B ≤ w.heap.size) (h1 : Rws w B v cs) (h2 : Rws w B u ps) (h3 : BRow w B (.slice A3 bs.length c3) bs) (s1 : Sized cs) (s2 : Sized ps) (h64 : ∀ c ∈ cs, Small64 c) (hbl : bs.length ≤ 140737488351232) :
    Calls Try.prog 3 #[.int .i64 a, v, u, .slice A3 bs.length c3] w fun e w' => e = .returned (.bool true) ∧ Fr (fun _ => False) w w' := by
  refine calls_of_FC (N := 65) (vs := [.int .i64 a, v, u, .slice A3 bs.length c3]) Try.func3 rfl Try.ntmps3 (Nat.le_of_ble_eq_true rfl) ?_
  have k1 := many_calls h1.p 1500 (by omega) s1.n62 s1.l62
  have k2 := many_calls h2.p 300 (by omega) s2.n62 s2.l62
  refine FC.seq (FC.region ?_)
  refine FL.pur rfl rfl (p_assign rfl) ?_
  refine FL.nilK ?_
  refine FC.seq ?_
  cases c1 : manyV cs 1500 with
  | true =>
    rw [c1] at k1
    refine FC.seq (FC.region ?_)
    refine FL.pur rfl rfl (p_move rfl) ?_
    refine FL.call rfl rfl (p_call Try.func10 rfl rfl rfl) (k1) ?_
    rintro e_ w_ ⟨rfl, rfl⟩
    refine ⟨_, rfl, ?_⟩
    refine FL.pur rfl rfl (p_move rfl) ?_
    refine FL.off rfl rfl ?_
    refine FL.off rfl rfl ?_
    refine FL.pur rfl rfl (p_pick_t rfl rfl) ?_
    refine FL.pur rfl rfl (p_move rfl) ?_
    refine FL.off rfl rfl ?_
    refine FL.off rfl rfl ?_
    refine FL.off rfl rfl ?_
    refine FL.pur rfl rfl (p_pick_t rfl rfl) ?_
    refine FL.nilK ?_
    refine FC.cond_t rfl ?_
    refine FC.seq (FC.region ?_)
    refine FL.pur rfl rfl (p_assign rfl) ?_
    refine FL.nilK ?_
    refine FC.ret ?_
    repeat (first | with_reducible refine thn_ret ?_ | with_reducible refine blk_ret ?_ | with_reducible refine nog_ret ?_)
    exact ret1 Try.results3 rfl ⟨rfl, Fr.refl _ _⟩
  | false =>
  rw [c1] at k1
  obtain ⟨n1, l1⟩ := many_no c1
  cases c2 : manyV ps 300 with
  | true =>
    rw [c2] at k2
    refine FC.seq (FC.region ?_)
    refine FL.pur rfl rfl (p_move rfl) ?_
    refine FL.call rfl rfl (p_call Try.func10 rfl rfl rfl) (k1) ?_
    rintro e_ w_ ⟨rfl, rfl⟩
    refine ⟨_, rfl, ?_⟩
    refine FL.pur rfl rfl (p_move rfl) ?_
    refine FL.pur rfl rfl (p_move rfl) ?_
    refine FL.call rfl rfl (p_call Try.func10 rfl rfl rfl) (k2) ?_
    rintro e_ w_ ⟨rfl, rfl⟩
    refine ⟨_, rfl, ?_⟩
    refine FL.pur rfl rfl (p_pick_f rfl rfl) ?_
    refine FL.pur rfl rfl (p_move rfl) ?_
    refine FL.off rfl rfl ?_
    refine FL.off rfl rfl ?_
    refine FL.off rfl rfl ?_
    refine FL.pur rfl rfl (p_pick_t rfl rfl) ?_
    refine FL.nilK ?_
    refine FC.cond_t rfl ?_
    refine FC.seq (FC.region ?_)
    refine FL.pur rfl rfl (p_assign rfl) ?_
    refine FL.nilK ?_
    refine FC.ret ?_
    repeat (first | with_reducible refine thn_ret ?_ | with_reducible refine blk_ret ?_ | with_reducible refine nog_ret ?_)
    exact ret1 Try.results3 rfl ⟨rfl, Fr.refl _ _⟩
  | false =>
  rw [c2] at k2
  obtain ⟨n2, l2⟩ := many_no c2
  by_cases c4 : 5100 < bs.length
  · refine FC.seq (FC.region ?_)
    refine FL.pur rfl rfl (p_move rfl) ?_
    refine FL.call rfl rfl (p_call Try.func10 rfl rfl rfl) (k1) ?_
    rintro e_ w_ ⟨rfl, rfl⟩
    refine ⟨_, rfl, ?_⟩
    refine FL.pur rfl rfl (p_move rfl) ?_
    refine FL.pur rfl rfl (p_move rfl) ?_
    refine FL.call rfl rfl (p_call Try.func10 rfl rfl rfl) (k2) ?_
    rintro e_ w_ ⟨rfl, rfl⟩
    refine ⟨_, rfl, ?_⟩
    refine FL.pur rfl rfl (p_pick_f rfl rfl) ?_
    refine FL.pur rfl rfl (p_move rfl) ?_
    refine FL.pur rfl rfl (p_move rfl) ?_
    refine FL.pur rfl rfl (p_len rfl Try.underlying23) ?_
    refine FL.pur rfl rfl (p_gtr rfl rfl (decide_eq_true (by omega))) ?_
    refine FL.pur rfl rfl (p_pick_f rfl rfl) ?_
    refine FL.nilK ?_
    refine FC.cond_t rfl ?_
    refine FC.seq (FC.region ?_)
    refine FL.pur rfl rfl (p_assign rfl) ?_
    refine FL.nilK ?_
    refine FC.ret ?_
    repeat (first | with_reducible refine thn_ret ?_ | with_reducible refine blk_ret ?_ | with_reducible refine nog_ret ?_)
    exact ret1 Try.results3 rfl ⟨rfl, Fr.refl _ _⟩
  refine FC.seq (FC.region ?_)
  refine FL.pur rfl rfl (p_move rfl) ?_
  refine FL.call rfl rfl (p_call Try.func10 rfl rfl rfl) (k1) ?_
  rintro e_ w_ ⟨rfl, rfl⟩
  refine ⟨_, rfl, ?_⟩
  refine FL.pur rfl rfl (p_move rfl) ?_
  refine FL.pur rfl rfl (p_move rfl) ?_
  refine FL.call rfl rfl (p_call Try.func10 rfl rfl rfl) (k2) ?_
  rintro e_ w_ ⟨rfl, rfl⟩
  refine ⟨_, rfl, ?_⟩
  refine FL.pur rfl rfl (p_pick_f rfl rfl) ?_
  refine FL.pur rfl rfl (p_move rfl) ?_
  refine FL.pur rfl rfl (p_move rfl) ?_
  refine FL.pur rfl rfl (p_len rfl Try.underlying23) ?_
  refine FL.pur rfl rfl (p_gtr rfl rfl (decide_eq_false (by omega))) ?_
  refine FL.pur rfl rfl (p_pick_f rfl rfl) ?_
  refine FL.nilK ?_
  refine FC.cond_f rfl (FC.skip (thn_normal ?_))
  have q1 : ∀ c ∈ cs, c.length < 1099511627776 := fun c hc => by have := l1 c hc; omega
  have q2 : ∀ c ∈ ps, c.length < 1099511627776 := fun c hc => by have := l2 c hc; omega
  refine FC.seq (FC.region ?_)
  refine FL.pur rfl rfl (p_move rfl) ?_
  refine FL.call rfl rfl (p_call Try.func11 rfl rfl rfl) (twin_calls (w := w) h1.p (fun k (hk : k < B) => by omega) (by omega) q1) ?_
  rintro e_ w_ ⟨t1, rfl, m1, b3⟩
  refine ⟨_, rfl, ?_⟩
  refine FL.pur rfl rfl (p_move rfl) ?_
  refine FL.call rfl rfl (p_call Try.func11 rfl rfl rfl) (twin_calls (h2.go b3).p (fun k (hk : k < B) => by have := b3.size; omega) (by omega) q2) ?_
  rintro e_ w_ ⟨t2, rfl, m2, b4⟩
  refine ⟨_, rfl, ?_⟩
  refine FL.pur rfl rfl (p_assign rfl) ?_
  refine FL.pur rfl rfl (p_assign rfl) ?_
  refine FL.nilK ?_
  obtain ⟨w4, hw4⟩ : ∃ w4, w4 = w_ := ⟨_, rfl⟩
  have m1 : Rws w4 w4.heap.size t1 cs := by rw [hw4]; exact (m1.rws.fr b4 fun _ _ h => h).rws
  have m2 : Rws w4 w4.heap.size t2 ps := by rw [hw4]; exact m2.rws.rws
  have B4 : Fr (fun _ => False) w w4 := by rw [hw4]; exact b3.go b4
  rw [← hw4]
  clear b3 b4
  have hB4 := B4.size
  have h1 := (h1.go B4).p.mono (Q := fun k => k < w4.heap.size) fun _ _ h => h
  have h2 := (h2.go B4).p.mono (Q := fun k => k < w4.heap.size) fun _ _ h => h
  have h3 := (h3.fr B4 fun _ _ h => h).mono (B' := w4.heap.size) (by omega)
  have k5 := check_calls a m1 (by omega) s1.l62
  have k6 := refcheck_calls h1 a ha (by omega) s1.l62
  have k7 := holds_calls m1 h3 (by omega) (fun c hc => ⟨s1.l62 c hc, h64 c hc⟩) (by omega)
  refine FC.seq (FC.region ?_)
  refine FL.pur rfl rfl (p_move rfl) ?_
  refine FL.pur rfl rfl (p_move rfl) ?_
  refine FL.call rfl rfl (p_call Try.func12 rfl rfl rfl) (k5) ?_
  rintro e_ w_ ⟨rfl, rfl⟩
  refine ⟨_, rfl, ?_⟩
  refine FL.pur rfl rfl (p_move rfl) ?_
  refine FL.pur rfl rfl (p_move rfl) ?_
  refine FL.call rfl rfl (p_call Try.func13 rfl rfl rfl) (k6) ?_
  rintro e_ w_ ⟨rfl, rfl⟩
  refine ⟨_, rfl, ?_⟩
  refine FL.pur rfl rfl (p_eql rfl rfl (decide_eq_true rfl)) ?_
  refine FL.pur rfl rfl (p_move rfl) ?_
  refine FL.pur rfl rfl (p_move rfl) ?_
  refine FL.pur rfl rfl (p_move rfl) ?_
  refine FL.call rfl rfl (p_call Try.func14 rfl rfl rfl) (k7) ?_
  rintro e_ w_ ⟨rfl, b7⟩
  refine ⟨_, rfl, ?_⟩
  refine FL.pur rfl rfl (p_move rfl) ?_
  refine FL.pur rfl rfl (p_move rfl) ?_
  refine FL.call rfl rfl (p_call Try.func15 rfl rfl rfl) (refholds_calls (Rws.go h1 b7) (h3.fr b7 fun _ _ h => h) (by omega) (fun c hc => ⟨s1.l62 c hc, h64 c hc⟩) (by omega)) ?_
  rintro e_ w_ ⟨rfl, rfl⟩
  refine ⟨_, rfl, ?_⟩
  refine FL.pur rfl rfl (p_eqlB rfl rfl Try.underlying4 (decide_eq_true rfl)) ?_
  refine FL.pur rfl rfl (p_pick_t rfl rfl) ?_
  refine FL.pur rfl rfl (p_move rfl) ?_
  refine FL.pur rfl rfl (p_move rfl) ?_
  refine FL.pur rfl rfl (p_move rfl) ?_
  refine FL.pur rfl rfl (p_move rfl) ?_
  refine FL.call rfl rfl (p_call Try.func16 rfl rfl rfl) (refutes_calls a (m1.go b7) (m2.go b7) b7.size (by omega) q1 (by omega) q2) ?_
  rintro e_ w_ ⟨⟨x1, rfl, y1⟩, b9⟩
  refine ⟨_, rfl, ?_⟩
  refine FL.pur rfl rfl (p_move rfl) ?_
  refine FL.pur rfl rfl (p_move rfl) ?_
  refine FL.pur rfl rfl (p_move rfl) ?_
  refine FL.call rfl rfl (p_call Try.func17 rfl rfl rfl) (refrefutes_calls a ha (RwsP.fr h1 (b7.go b9) fun _ _ h => h) (RwsP.fr h2 (b7.go b9) fun _ _ h => h) (fun k hk => Nat.lt_of_lt_of_le hk (b7.go b9).size) (by omega) s1.l62 (by omega) s2.l62) ?_
  rintro e_ w_ ⟨⟨x2, rfl, y2⟩, b10⟩
  refine ⟨_, rfl, ?_⟩
  refine FL.pur rfl rfl (p_eqlB rfl rfl Try.underlying4 (decide_eq_true (Bool.eq_iff_iff.2 (y1.trans y2.symm)))) ?_
  refine FL.pur rfl rfl (p_pick_t rfl rfl) ?_
  refine FL.pur rfl rfl (p_assign rfl) ?_
  refine FL.nilK ?_
  have b10 := (b7.go b9).go b10
  clear b7 b9
  refine FC.seq (FC.region ?_)
  refine FL.pur rfl rfl (p_move rfl) ?_
  refine FL.pur rfl rfl (p_move rfl) ?_
  refine FL.pur rfl rfl (p_move rfl) ?_
  refine FL.pur rfl rfl (p_move rfl) ?_
  refine FL.call rfl rfl (p_call Try.func18 rfl rfl rfl) (same_calls (m1.go b10) (Rws.go h1 b10) (by omega) s1.l62) ?_
  rintro e_ w_ ⟨rfl, b11⟩
  refine ⟨_, rfl, ?_⟩
  refine FL.pur rfl rfl (p_pick_t rfl rfl) ?_
  refine FL.pur rfl rfl (p_move rfl) ?_
  refine FL.pur rfl rfl (p_move rfl) ?_
  refine FL.pur rfl rfl (p_move rfl) ?_
  refine FL.call rfl rfl (p_call Try.func18 rfl rfl rfl) (same_calls (m2.go (b10.go b11)) (Rws.go h2 (b10.go b11)) (by omega) s2.l62) ?_
  rintro e_ w_ ⟨rfl, b12⟩
  refine ⟨_, rfl, ?_⟩
  refine FL.pur rfl rfl (p_pick_t rfl rfl) ?_
  refine FL.pur rfl rfl (p_assign rfl) ?_
  refine FL.nilK ?_
  refine FC.ret ?_
  repeat (first | with_reducible refine thn_ret ?_ | with_reducible refine blk_ret ?_ | with_reducible refine nog_ret ?_)
  exact ret1 Try.results3 rfl ⟨rfl, B4.go ((b10.go b11).go b12)⟩
end
end Go.Proofs.Ytcahhbcehnbdkaa.Sv
