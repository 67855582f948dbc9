/- SolveMoreUpto holds: for every input the law returns true, and each argument reads behind the call as it read before. No condition. -/
import Derived.Test.YtcahhbcehnbdkaaZ73
import Derived.Test.YtcahhbcehnbdkaaZ74
import Derived.Test.YtcahhbcehnbdkaaRows
import Derived.Deep.Matrix
import Derived.Deep.Grids
import Derived.SizedLaws
import Derived.WalkKit
import Derived.ProofKit
import Derived.OpenShut
import Derived.ChangeOld
import Derived.Below
import Derived.Deep.CondSized
set_option linter.unusedVariables false
set_option linter.unusedSimpArgs false
/- Clauses come in before a search, as a law. -/
namespace Go.Proofs.Ytcahhbcehnbdkaa.Sv
open Go.RowKit Go.Proofs.YtcahhbcehnbdkaaW.PrintWords
section
variable {Φ : List (List Int)} {s : S} {n i : Nat}
/-- Before the search. -/
structure Ini (Φ : List (List Int)) (s : S) (n i : Nat) : Prop where
  run : Run Φ s n i []
  prf : s.proof = []
  head : s.head = 0
theorem Ini.new (m : Nat) (hm : m < 1073741824) : Ini [] (beginS m) (m + 1) 0 := by
  have hs := begin_still m hm (T := 0) (by omega)
  have hh : Hist (beginS m) (m + 1) [] := ⟨rfl, List.Pairwise.nil, fun k hk => (by cases hk), by simp [beginS], by simp [beginS], by simp [beginS], fun l hl => (by cases hl), fun l hl => (by cases hl), fun l hl => (by cases hl), fun t ht => absurd ht (Nat.not_lt_zero t), fun t ht => absurd ht (Nat.not_lt_zero t)⟩
  refine ⟨⟨?_, ⟨0, fun c hc => (by cases hc), Nat.zero_le _, fun x hx => (by cases hx)⟩, hh, fun j hj => absurd hj (Nat.not_lt_zero j), fun c hc => (by cases hc), fun c hc => (by cases hc), ?_, by simp [beginS], by simp [beginS], fun i hi => absurd hi (Nat.not_lt_zero i), by simp [beginS]⟩, rfl, rfl⟩
  rotate_left
  · show (m : Int) = ((m + 1 : Nat) : Int) - 1
    omega
  exact hs.ok.assuming fun l hl => by cases hl
theorem Ini.okN (h : Ini Φ s n i) : Ok Φ (fun _ => False) s n (2 * i) [] := by
  have := h.run.ok
  rw [h.prf, List.append_nil] at this
  exact this.assuming fun l hl => (this.sound l hl).mono (fun _ h => h) fun l ⟨q, q1, _⟩ => by cases q1
theorem Ini.srcN (h : Ini Φ s n i) : Src Φ s := by
  have := h.run.src
  rwa [h.prf, List.append_nil] at this
theorem Ini.pro (h : Ini Φ s n i) : Pro s s.head.toNat fun _ _ => False := fun j x y _ _ hx => by
  rw [h.head] at hx; simp at hx
/-- What it takes to be there again. -/
theorem Ini.mk' {c : List Int} {r : S} (h : Ini Φ s n i) (hc : ∀ l ∈ c, Lit n l ∧ l ≠ 0) (ok : Ok (Φ ++ [c]) (fun _ => False) r n (2 * (i + 1)) []) (hh : Hist r n []) (hs : Src (Φ ++ [c]) r) (hcov : Cov (Φ ++ [c]) r r.trail.length) (e1 : r.atoms = s.atoms) (e2 : r.active = s.active) (e3 : r.proof = s.proof) (e4 : r.head = s.head) (e5 : r.clauses.length ≤ s.clauses.length + 1) : Ini (Φ ++ [c]) r n (i + 1) := by
  have ep : r.proof = [] := e3.trans h.prf
  refine ⟨⟨?_, ⟨r.trail.length, hcov, Nat.le_refl _, fun x hx => by cases hx⟩, hh, ?_, fun d hd => ?_, fun d hd => ?_, e1.trans h.run.atm, by rw [e2]; exact h.run.act, ?_, fun j hj => ?_, ?_⟩, ep, e4.trans h.head⟩
  · rw [ep, List.append_nil]
    exact ok.assuming fun l hl => (ok.sound l hl).mono (fun _ h => h) fun _ h => h.elim
  · rw [ep, List.append_nil]; exact hs
  · rcases List.mem_append.1 hd with hd | hd
    · exact h.run.nz d hd
    · rw [List.mem_singleton.1 hd]; exact hc
  · rw [ep] at hd; cases hd
  · have := h.run.cls
    rw [h.prf] at this
    rw [ep]
    simp only [List.length_nil, Nat.add_zero] at this ⊢
    omega
  · rw [ep] at hj; cases hj
  · rw [ep]; simp
theorem Ini.skip (h : Ini Φ s n i) {c : List Int} (hc : ∀ l ∈ c, Lit n l ∧ l ≠ 0) (hi : i < 1000000) (hs : Taut c ∨ ∃ l ∈ c, l ∈ s.trail) : Ini (Φ ++ [c]) s n (i + 1) := by
  obtain ⟨k, k1, k2, _⟩ := h.run.cov
  refine h.mk' hc (((h.okN).more fun d hd => List.mem_append_left _ hd).room (by omega) (by omega)) h.run.hist (h.srcN.more fun d hd => List.mem_append_left _ hd) ((k1.mono k2).snoc (hs.imp id fun ⟨l, l1, l2⟩ => .inl ⟨l, l1, by rw [List.take_length]; exact l2⟩)) rfl rfl rfl rfl (Nat.le_succ _)
theorem Ini.add (h : Ini Φ s n i) {c own : List Int} (hc : ∀ l ∈ c, Lit n l ∧ l ≠ 0) (hi : i < 1000000) (hcl : cleanL c [] = some own) :
    ((addS s own).2 = true ∧ Ini (Φ ++ [c]) (addS s own).1 n (i + 1)) ∨ ((addS s own).2 = false ∧ (addS s own).1 = s ∧ Conf (Φ ++ [c]) fun _ => False) := by
  obtain ⟨hnd, hmem⟩ := clean_some hcl
  have hco : ∀ l ∈ own, Lit n l ∧ l ≠ 0 := fun l hl => hc l ((hmem l).1 hl)
  have hcin : c ∈ Φ ++ [c] := by simp
  have hmore : ∀ d ∈ Φ, d ∈ Φ ++ [c] := fun d hd => List.mem_append_left _ hd
  have hcls : s.clauses.length + 1 < 1099511627776 := by
    have := h.run.cls
    rw [h.prf] at this
    simp only [List.length_nil, Nat.add_zero] at this
    omega
  obtain ⟨k, k1, k2, _⟩ := h.run.cov
  have hcov := k1.mono k2
  have hok := h.okN.more hmore
  match own, hnd, hmem, hco with
  | [], _, hmem, _ =>
    right
    have e : c = [] := List.eq_nil_iff_forall_not_mem.2 fun l hl => by have := (hmem l).2 hl; cases this
    exact ⟨rfl, rfl, c, hcin, fun m hm => by rw [e] at hm; cases hm⟩
  | [l], _, hmem, hco =>
    obtain ⟨L0, Z0⟩ := hco l (by simp)
    have hlc : l ∈ c := (hmem l).1 (by simp)
    have hcl1 : ∀ m ∈ c, m = l := fun m hm => List.mem_singleton.1 ((hmem m).2 hm)
    have hs := ofv_small h.okN.good.value h.okN.good.small L0
    by_cases h0 : ofv s l = 0
    · left
      have eA : addS s [l] = (setS (withC s [l]) l s.clauses.length, decide (ofv (setS (withC s [l]) l s.clauses.length) l = 1)) := by
        simp only [addS]; rw [if_pos h0]
      have okw := hok.short (c := [l]) (fun x hx => by rw [List.mem_singleton.1 hx]; exact ⟨L0, Z0⟩) hcls (by simp) (by simp)
      have hone : ofv (setS (withC s [l]) l s.clauses.length) l = 1 := ofv_set_self (s := withC s [l]) (n := n) okw.good.value L0
      have hh0 : Hist (withC s [l]) n [] := h.run.hist.more (c := [l]) rfl rfl rfl rfl rfl rfl
      have ecl : cl (withC s [l]) (s.clauses.length : Int) = [l] := (cw_withC (s := s) [l] s.clauses.length).trans (if_pos rfl)
      have hh : Hist (setS (withC s [l]) l s.clauses.length) n [] := hh0.set L0 Z0 h0 fun _ => ⟨Int.natCast_nonneg _, by show s.clauses.length < _; rw [len_withC]; omega, by rw [ecl]; simp, fun m hm => by rw [ecl] at hm; exact .inl (List.mem_singleton.1 hm)⟩
      have hsr : Src (Φ ++ [c]) (setS (withC s [l]) l s.clauses.length) := (h.srcN.more hmore).snoc (c := [l]) (r := setS (withC s [l]) l s.clauses.length) ⟨c, hcin, fun x => (hmem x).symm⟩ rfl
      have okf := okw.setS (l := l) (r := (s.clauses.length : Int)) L0 Z0 h0 (.unit hcin hlc fun m hm hne => absurd (hcl1 m hm) hne)
      rw [eA]
      refine ⟨decide_eq_true hone, h.mk' hc (okf.room (by omega) (by omega)) hh hsr ?_ rfl rfl rfl rfl (by show (withC s [l]).clauses.length ≤ _; rw [len_withC]; exact Nat.le_refl _)⟩
      have hc2 : Cov Φ (setS (withC s [l]) l s.clauses.length) s.trail.length := Cov.ext (s := withC s [l]) (cov_withC _ hcov) (fun _ => ⟨.rfl, fun _ => .rfl⟩) (by
        show (s.trail ++ [l]).take s.trail.length = s.trail.take s.trail.length
        rw [List.take_append_of_le_length (Nat.le_refl _)])
      have htl : (setS (withC s [l]) l (s.clauses.length : Int)).trail = s.trail ++ [l] := rfl
      refine (hc2.mono (by rw [htl, List.length_append]; omega)).snoc (.inr (.inl ⟨l, hlc, ?_⟩))
      rw [List.take_length, htl]; simp
    · by_cases h1 : ofv s l = 1
      · left
        have eA : addS s [l] = (s, decide (ofv s l = 1)) := by simp only [addS]; rw [if_neg h0]
        rw [eA]
        exact ⟨decide_eq_true h1, h.skip hc hi (.inr ⟨l, hlc, h.okN.only l L0 Z0 h1⟩)⟩
      · right
        have eA : addS s [l] = (s, decide (ofv s l = 1)) := by simp only [addS]; rw [if_neg h0]
        rw [eA]
        refine ⟨decide_eq_false h1, rfl, c, hcin, fun m hm => ?_⟩
        rw [hcl1 m hm]
        exact (h.okN.sound _ ((h.okN.false_ L0 Z0).1 (by omega))).mono hmore fun _ h => h
  | c0 :: c1 :: r, hnd, hmem, hco =>
    left
    have hsrc' : ∃ d ∈ Φ ++ [c], ∀ x, x ∈ d ↔ x ∈ c0 :: c1 :: r := ⟨c, hcin, fun x => (hmem x).symm⟩
    have ok2 := hok.add2 (c0 := c0) (c1 := c1) (r := r) hco hcls (by omega) hnd hsrc' fun x hx => by cases hx
    refine ⟨rfl, h.mk' hc (r := add2 s c0 c1 r) (by have e : 2 * (i + 1) = 2 * i + 2 := by omega
                                                    rw [e]; exact ok2) (h.run.hist.more (c := c0 :: c1 :: r) rfl rfl rfl rfl rfl rfl) ((h.srcN.more hmore).snoc (c := c0 :: c1 :: r) (r := add2 s c0 c1 r) hsrc' rfl) ?_ rfl rfl rfl rfl (by show (withC s (c0 :: c1 :: r)).clauses.length ≤ _; rw [len_withC]; exact Nat.le_refl _)⟩
    refine Cov.snoc (cov_withC (c0 :: c1 :: r) hcov) (.inr (.inr ⟨s.clauses.length, (two_withC _ _).2 (.inr ⟨rfl, by simp⟩), fun x => ?_⟩))
    have e : cw (add2 s c0 c1 r) s.clauses.length = c0 :: c1 :: r := (cw_withC (s := s) _ _).trans (if_pos rfl)
    rw [show cw (withC s (c0 :: c1 :: r)) s.clauses.length = c0 :: c1 :: r from e]
    exact (hmem x).symm
end
end Go.Proofs.Ytcahhbcehnbdkaa.Sv

/- The walk of SolveChecks. -/
namespace Go.Proofs.Ytcahhbcehnbdkaa.Sv
open Go.RowKit Go.Proofs.YtcahhbcehnbdkaaW.PrintWords Go.Proofs.YtcahhbcehnbdkaaW.PrintLast Go.Proofs.Ytcahhbcehnbdkaa.Eng
section
variable {w w' : World} {v u : Value} {cs ps : List (List Int)} {bs : List Bool}
/-- Lengths within what a machine holds. -/
structure Sized (cs : List (List Int)) : Prop where
  n : cs.length < 5864062014805
  l : ∀ c ∈ cs, c.length < 17592186044416
theorem Sized.l62 (h : Sized cs) : ∀ c ∈ cs, c.length < 4611686018427387904 := fun c hc => by have := h.l c hc; omega
theorem Sized.n62 (h : Sized cs) : cs.length < 4611686018427387904 := by have := h.n; omega
theorem Fr.below' {F : Nat → Prop} (h : Fr F w w') (hF : ∀ k, F k → w.heap.size ≤ k) : Below w.heap.size w w' := ⟨h.os, h.tape, h.output, h.size, fun k hk => h.block k hk fun hf => by have := hF k hf; omega⟩
theorem Rws.go {B : Nat} (h : Rws w B v cs) (hf : Fr (fun _ => False) w w') : Rws w' B v cs := h.fr hf fun _ _ h => h
theorem BRow.mono {B B' : Nat} {v : Value} (h : BRow w B v bs) (hB : B ≤ B') : BRow w B' v bs := by
  obtain ⟨A, cap, rfl, h1⟩ := h
  refine ⟨A, cap, rfl, fun i hi => ?_⟩
  obtain ⟨ad, e1, e2, e3⟩ := h1 i hi
  exact ⟨ad, e1, by omega, e3⟩
theorem Fr.go {w1 w2 : World} (h : Fr (fun _ => False) w w1) (k : Fr (fun _ => False) w1 w2) : Fr (fun _ => False) w w2 := h.trans k fun _ h => h.elim
theorem p_eqlB {P : Program} {ρ : Env} {dst : Option Tmp} {ty : TypeId} {pos : String} {af : Array Edge} {gd : Option (Nat × Bool)} {x y : Operand} {t t' : TypeId} {m n b : Bool} (hx : ev ρ x = some (.bool m)) (hy : ev ρ y = some (.bool n)) (hu : P.underlying t = some .bool) (hr : decide (m = n) = b) : Pur P ρ ⟨dst, .binOp .eql t x y t', ty, pos, af, gd⟩ (.bool b) := fun w a ha => by
  subst hr
  have e : (m == n) = decide (m = n) := rfl
  have h1 : (Op.equalIn Op.maxDepth t (.bool m) (.bool n)).run P w = .ok (m == n) w := run_equalIn_bool w _ t m n hu
  simp [execOp, ha.ev hx, ha.ev hy, eqGuard, binOp, Op.equal, h1, e]
set_option maxHeartbeats 2000000 in
theorem checks_law {B : Nat} {u : Value} {A3 : Option Addr} {c3 : Nat} (a : Int) (ha : -9223372036854775808 ≤ a ∧ a < 9223372036854775808) (hB : B ≤ w.heap.size) (h1 : Rws w B v cs) (h2 : Rws w B u ps) (h3 : BRow w B (.slice A3 bs.length c3) bs) (s1 : Sized cs) (s2 : Sized ps) (h64 : ∀ c ∈ cs, Small64 c) (hbl : bs.length ≤ 140737488351232) :
    Calls Try.prog 3 #[.int .i64 a, v, u, .slice A3 bs.length c3] w fun e w' => e = .returned (.bool true) ∧ Fr (fun _ => False) w w' := by
  refine calls_of_FC (N := 65) (vs := [.int .i64 a, v, u, .slice A3 bs.length c3]) Try.func3 rfl Try.ntmps3 (Nat.le_of_ble_eq_true rfl) ?_
  have k1 := many_calls h1.p 1500 (by omega) s1.n62 s1.l62
  have k2 := many_calls h2.p 300 (by omega) s2.n62 s2.l62
  refine FC.seq (FC.region ?_)
  refine sg_ rfl rfl rfl ?_
  refine FL.nilK ?_
  refine FC.seq ?_
  cases c1 : manyV cs 1500 with
  | true =>
    rw [c1] at k1
    refine FC.seq (FC.region ?_)
    refine mv_ rfl rfl rfl ?_
    refine FL.call rfl rfl (p_call Try.func10 rfl rfl rfl) (k1) ?_
    rintro e_ w_ ⟨rfl, rfl⟩
    refine ⟨_, rfl, ?_⟩
    refine mv_ rfl rfl rfl ?_
    refine FL.off rfl rfl ?_
    refine FL.off rfl rfl ?_
    refine FL.pur rfl rfl (p_pick_t rfl rfl) ?_
    refine mv_ rfl rfl rfl ?_
    refine FL.off rfl rfl ?_
    refine FL.off rfl rfl ?_
    refine FL.off rfl rfl ?_
    refine FL.pur rfl rfl (p_pick_t rfl rfl) ?_
    refine FL.nilK ?_
    refine FC.cond_t rfl ?_
    refine FC.seq (FC.region ?_)
    refine sg_ rfl rfl rfl ?_
    refine FL.nilK ?_
    refine FC.ret ?_
    repeat with_reducible first | refine thn_ret ?_ | refine blk_ret ?_ | refine nog_ret ?_
    exact ret1 Try.results3 rfl ⟨rfl, Fr.refl _ _⟩
  | false =>
  rw [c1] at k1
  obtain ⟨n1, l1⟩ := many_no c1
  cases c2 : manyV ps 300 with
  | true =>
    rw [c2] at k2
    refine FC.seq (FC.region ?_)
    refine mv_ rfl rfl rfl ?_
    refine FL.call rfl rfl (p_call Try.func10 rfl rfl rfl) (k1) ?_
    rintro e_ w_ ⟨rfl, rfl⟩
    refine ⟨_, rfl, ?_⟩
    refine mv_ rfl rfl rfl ?_
    refine mv_ rfl rfl rfl ?_
    refine FL.call rfl rfl (p_call Try.func10 rfl rfl rfl) (k2) ?_
    rintro e_ w_ ⟨rfl, rfl⟩
    refine ⟨_, rfl, ?_⟩
    refine FL.pur rfl rfl (p_pick_f rfl rfl) ?_
    refine mv_ rfl rfl rfl ?_
    refine FL.off rfl rfl ?_
    refine FL.off rfl rfl ?_
    refine FL.off rfl rfl ?_
    refine FL.pur rfl rfl (p_pick_t rfl rfl) ?_
    refine FL.nilK ?_
    refine FC.cond_t rfl ?_
    refine FC.seq (FC.region ?_)
    refine sg_ rfl rfl rfl ?_
    refine FL.nilK ?_
    refine FC.ret ?_
    repeat with_reducible first | refine thn_ret ?_ | refine blk_ret ?_ | refine nog_ret ?_
    exact ret1 Try.results3 rfl ⟨rfl, Fr.refl _ _⟩
  | false =>
  rw [c2] at k2
  obtain ⟨n2, l2⟩ := many_no c2
  by_cases c4 : 5100 < bs.length
  · refine FC.seq (FC.region ?_)
    refine mv_ rfl rfl rfl ?_
    refine FL.call rfl rfl (p_call Try.func10 rfl rfl rfl) (k1) ?_
    rintro e_ w_ ⟨rfl, rfl⟩
    refine ⟨_, rfl, ?_⟩
    refine mv_ rfl rfl rfl ?_
    refine mv_ rfl rfl rfl ?_
    refine FL.call rfl rfl (p_call Try.func10 rfl rfl rfl) (k2) ?_
    rintro e_ w_ ⟨rfl, rfl⟩
    refine ⟨_, rfl, ?_⟩
    refine FL.pur rfl rfl (p_pick_f rfl rfl) ?_
    refine mv_ rfl rfl rfl ?_
    refine mv_ rfl rfl rfl ?_
    refine FL.pur rfl rfl (p_len rfl Try.underlying23) ?_
    refine FL.pur rfl rfl (p_gtr rfl rfl (decide_eq_true (by omega))) ?_
    refine FL.pur rfl rfl (p_pick_f rfl rfl) ?_
    refine FL.nilK ?_
    refine FC.cond_t rfl ?_
    refine FC.seq (FC.region ?_)
    refine sg_ rfl rfl rfl ?_
    refine FL.nilK ?_
    refine FC.ret ?_
    repeat with_reducible first | refine thn_ret ?_ | refine blk_ret ?_ | refine nog_ret ?_
    exact ret1 Try.results3 rfl ⟨rfl, Fr.refl _ _⟩
  refine FC.seq (FC.region ?_)
  refine mv_ rfl rfl rfl ?_
  refine FL.call rfl rfl (p_call Try.func10 rfl rfl rfl) (k1) ?_
  rintro e_ w_ ⟨rfl, rfl⟩
  refine ⟨_, rfl, ?_⟩
  refine mv_ rfl rfl rfl ?_
  refine mv_ rfl rfl rfl ?_
  refine FL.call rfl rfl (p_call Try.func10 rfl rfl rfl) (k2) ?_
  rintro e_ w_ ⟨rfl, rfl⟩
  refine ⟨_, rfl, ?_⟩
  refine FL.pur rfl rfl (p_pick_f rfl rfl) ?_
  refine mv_ rfl rfl rfl ?_
  refine mv_ rfl rfl rfl ?_
  refine FL.pur rfl rfl (p_len rfl Try.underlying23) ?_
  refine FL.pur rfl rfl (p_gtr rfl rfl (decide_eq_false (by omega))) ?_
  refine FL.pur rfl rfl (p_pick_f rfl rfl) ?_
  refine FL.nilK ?_
  refine FC.cond_f rfl (FC.skip (thn_normal ?_))
  have q1 : ∀ c ∈ cs, c.length < 1099511627776 := fun c hc => by have := l1 c hc; omega
  have q2 : ∀ c ∈ ps, c.length < 1099511627776 := fun c hc => by have := l2 c hc; omega
  refine FC.seq (FC.region ?_)
  refine mv_ rfl rfl rfl ?_
  refine FL.call rfl rfl (p_call Try.func11 rfl rfl rfl) (twin_calls (w := w) h1.p (fun k (hk : k < B) => by omega) (by omega) q1) ?_
  rintro e_ w_ ⟨t1, rfl, m1, b3⟩
  refine ⟨_, rfl, ?_⟩
  refine mv_ rfl rfl rfl ?_
  refine FL.call rfl rfl (p_call Try.func11 rfl rfl rfl) (twin_calls (h2.go b3).p (fun k (hk : k < B) => by have := b3.size; omega) (by omega) q2) ?_
  rintro e_ w_ ⟨t2, rfl, m2, b4⟩
  refine ⟨_, rfl, ?_⟩
  refine sg_ rfl rfl rfl ?_
  refine sg_ rfl rfl rfl ?_
  refine FL.nilK ?_
  obtain ⟨w4, hw4⟩ : ∃ w4, w4 = w_ := ⟨_, rfl⟩
  have m1 : Rws w4 w4.heap.size t1 cs := by rw [hw4]; exact (m1.rws.fr b4 fun _ _ h => h).rws
  have m2 : Rws w4 w4.heap.size t2 ps := by rw [hw4]; exact m2.rws.rws
  have B4 : Fr (fun _ => False) w w4 := by rw [hw4]; exact b3.go b4
  rw [← hw4]
  clear b3 b4
  have hB4 := B4.size
  have h1 := (h1.go B4).p.mono (Q := fun k => k < w4.heap.size) fun _ _ h => h
  have h2 := (h2.go B4).p.mono (Q := fun k => k < w4.heap.size) fun _ _ h => h
  have h3 := (h3.fr B4 fun _ _ h => h).mono (B' := w4.heap.size) (by omega)
  have k5 := check_calls a m1 (by omega) s1.l62
  have k6 := refcheck_calls h1 a ha (by omega) s1.l62
  have k7 := holds_calls m1 h3 (by omega) (fun c hc => ⟨s1.l62 c hc, h64 c hc⟩) (by omega)
  refine FC.seq (FC.region ?_)
  refine mv_ rfl rfl rfl ?_
  refine mv_ rfl rfl rfl ?_
  refine FL.call rfl rfl (p_call Try.func12 rfl rfl rfl) (k5) ?_
  rintro e_ w_ ⟨rfl, rfl⟩
  refine ⟨_, rfl, ?_⟩
  refine mv_ rfl rfl rfl ?_
  refine mv_ rfl rfl rfl ?_
  refine FL.call rfl rfl (p_call Try.func13 rfl rfl rfl) (k6) ?_
  rintro e_ w_ ⟨rfl, rfl⟩
  refine ⟨_, rfl, ?_⟩
  refine FL.pur rfl rfl (p_eql rfl rfl (decide_eq_true rfl)) ?_
  refine mv_ rfl rfl rfl ?_
  refine mv_ rfl rfl rfl ?_
  refine mv_ rfl rfl rfl ?_
  refine FL.call rfl rfl (p_call Try.func14 rfl rfl rfl) (k7) ?_
  rintro e_ w_ ⟨rfl, b7⟩
  refine ⟨_, rfl, ?_⟩
  refine mv_ rfl rfl rfl ?_
  refine mv_ rfl rfl rfl ?_
  refine FL.call rfl rfl (p_call Try.func15 rfl rfl rfl) (refholds_calls (Rws.go h1 b7) (h3.fr b7 fun _ _ h => h) (by omega) (fun c hc => ⟨s1.l62 c hc, h64 c hc⟩) (by omega)) ?_
  rintro e_ w_ ⟨rfl, rfl⟩
  refine ⟨_, rfl, ?_⟩
  refine FL.pur rfl rfl (p_eqlB rfl rfl Try.underlying4 (decide_eq_true rfl)) ?_
  refine FL.pur rfl rfl (p_pick_t rfl rfl) ?_
  refine mv_ rfl rfl rfl ?_
  refine mv_ rfl rfl rfl ?_
  refine mv_ rfl rfl rfl ?_
  refine mv_ rfl rfl rfl ?_
  refine FL.call rfl rfl (p_call Try.func16 rfl rfl rfl) (refutes_calls a (m1.go b7) (m2.go b7) b7.size (by omega) q1 (by omega) q2) ?_
  rintro e_ w_ ⟨⟨x1, rfl, y1⟩, b9⟩
  refine ⟨_, rfl, ?_⟩
  refine mv_ rfl rfl rfl ?_
  refine mv_ rfl rfl rfl ?_
  refine mv_ rfl rfl rfl ?_
  refine FL.call rfl rfl (p_call Try.func17 rfl rfl rfl) (refrefutes_calls a ha (RwsP.fr h1 (b7.go b9) fun _ _ h => h) (RwsP.fr h2 (b7.go b9) fun _ _ h => h) (fun k hk => Nat.lt_of_lt_of_le hk (b7.go b9).size) (by omega) s1.l62 (by omega) s2.l62) ?_
  rintro e_ w_ ⟨⟨x2, rfl, y2⟩, b10⟩
  refine ⟨_, rfl, ?_⟩
  refine FL.pur rfl rfl (p_eqlB rfl rfl Try.underlying4 (decide_eq_true (Bool.eq_iff_iff.2 (y1.trans y2.symm)))) ?_
  refine FL.pur rfl rfl (p_pick_t rfl rfl) ?_
  refine sg_ rfl rfl rfl ?_
  refine FL.nilK ?_
  have b10 := (b7.go b9).go b10
  clear b7 b9
  refine FC.seq (FC.region ?_)
  refine mv_ rfl rfl rfl ?_
  refine mv_ rfl rfl rfl ?_
  refine mv_ rfl rfl rfl ?_
  refine mv_ rfl rfl rfl ?_
  refine FL.call rfl rfl (p_call Try.func18 rfl rfl rfl) (same_calls (m1.go b10) (Rws.go h1 b10) (by omega) s1.l62) ?_
  rintro e_ w_ ⟨rfl, b11⟩
  refine ⟨_, rfl, ?_⟩
  refine FL.pur rfl rfl (p_pick_t rfl rfl) ?_
  refine mv_ rfl rfl rfl ?_
  refine mv_ rfl rfl rfl ?_
  refine mv_ rfl rfl rfl ?_
  refine FL.call rfl rfl (p_call Try.func18 rfl rfl rfl) (same_calls (m2.go (b10.go b11)) (Rws.go h2 (b10.go b11)) (by omega) s2.l62) ?_
  rintro e_ w_ ⟨rfl, b12⟩
  refine ⟨_, rfl, ?_⟩
  refine FL.pur rfl rfl (p_pick_t rfl rfl) ?_
  refine sg_ rfl rfl rfl ?_
  refine FL.nilK ?_
  refine FC.ret ?_
  repeat with_reducible first | refine thn_ret ?_ | refine blk_ret ?_ | refine nog_ret ?_
  exact ret1 Try.results3 rfl ⟨rfl, B4.go ((b10.go b11).go b12)⟩
end
end Go.Proofs.Ytcahhbcehnbdkaa.Sv

/- Walk of Solve. -/
namespace Go.Proofs.Ytcahhbcehnbdkaa.Sv
open Go.RowKit Go.Proofs.YtcahhbcehnbdkaaW.PrintWords Go.Proofs.YtcahhbcehnbdkaaW.PrintLast Go.Proofs.Ytcahhbcehnbdkaa.Eng
section
variable {w w1 w2 : World} {B : Nat} {cs : List (List Int)}
/-- What Solve answers. -/
def SolR (a : Int) (cs : List (List Int)) (limit : Int) (w' : World) (Pr : Nat → Prop) (ans : Int) (mv pv : Value) (err : Int) : Prop :=
  (((checkV a cs ≠ 0 ∧ err = checkV a cs) ∨ (checkV a cs = 0 ∧ limit < 0 ∧ err = 2)) ∧ ans = 0 ∧ mv = .slice none 0 0 ∧ pv = .slice none 0 0) ∨
  (checkV a cs = 0 ∧ 0 ≤ limit ∧ err = 0 ∧ OutR cs (a + 1).toNat (decide (a ≤ 14)) w' Pr ans mv pv)
theorem zs_all : (#[.int .u8 0, .slice none 0 0, .slice none 0 0] : Array Value).all (·.oneCell') = true := all3 rfl rfl rfl
set_option maxHeartbeats 4000000 in
theorem solve_calls {v : Value} (a limit : Int) (hcs : Rws w B v cs) (hB : B ≤ w.heap.size) (hl : cs.length < 4611686018427387904) (hll : ∀ c ∈ cs, c.length < 1099511627776) :
    Calls Try.prog 21 #[.int .i64 a, v, .int .i64 limit] w fun e w' => ∃ ans mv pv err, e = .returned (.tuple #[.agg #[.int .u8 ans, mv, pv], .int .i64 err]) ∧ SolR a cs limit w' (fun k => w.heap.size ≤ k) ans mv pv err ∧ Fr (fun _ => False) w w' := by
  have hcs' := hcs
  obtain ⟨A, cap, rfl, hc⟩ := hcs
  refine calls_of_FC (N := 52) (vs := [.int .i64 a, .slice A cs.length cap, .int .i64 limit]) Try.func21 rfl Try.ntmps21 (Nat.le_of_ble_eq_true rfl) ?_
  refine FC.seq (FC.region ?_)
  refine FL.val _ _ rfl rfl (p_allocA inf36_eq inf36_zero) ?_
  refine sg_ rfl rfl rfl ?_
  refine FL.nilK ?_
  obtain ⟨rb, hrb⟩ : ∃ rb, rb = w.heap.size := ⟨_, rfl⟩
  obtain ⟨w1, hw1⟩ : ∃ w1, w1 = w.alloc (.cells (Value.agg #[.int .u8 0, .slice none 0 0, .slice none 0 0]).cells 36) := ⟨_, rfl⟩
  have f1 : Fr (fun _ => False) w w1 := by rw [hw1]; exact (Fr.refl _ w).alloc _
  have g1 : w1.heap[rb]? = some (.cells #[.int .u8 0, .slice none 0 0, .slice none 0 0] 36 (0, 0)) := by rw [hw1, hrb]; exact heap_alloc_new w _
  have s1 : rb < w1.heap.size := (Array.getElem?_eq_some_iff.1 g1).1
  rw [← hw1, ← hrb]
  clear hw1
  have hcs1 := hcs'.go f1
  have kc := check_calls a hcs1 hl fun c hc => by have := hll c hc; omega
  -- an answer is stored, and handed back
  have fin : ∀ (w5 w6 : World) (ans : Int) (mv pv : Value) (err : Int), w6 = w5.setRow rb #[.int .u8 ans, mv, pv] → w5.heap[rb]? = some (.cells #[.int .u8 0, .slice none 0 0, .slice none 0 0] 36 (0, 0)) → Fr (fun _ => False) w w5 → SolR a cs limit w5 (fun k => w1.heap.size ≤ k) ans mv pv err →
      w6.heap[rb]? = some (.cells #[.int .u8 ans, mv, pv] 36 (0, 0)) ∧ Fr (fun _ => False) w w6 ∧ SolR a cs limit w6 (fun k => rb ≤ k) ans mv pv err := fun w5 w6 ans mv pv err e6 hg hf ho => by
    subst e6
    have f5 : Fr (fun k => k = rb) w5 (w5.setRow rb #[.int .u8 ans, mv, pv]) := (Fr.refl _ w5).setRow _ (.inl rfl)
    refine ⟨setRow_heap w5 rb _ _ 36 (0, 0) hg, hf.setRow _ (.inr (by omega)), ?_⟩
    rcases ho with ho | ⟨x1, x2, x3, ho⟩
    · exact .inl ho
    · refine .inr ⟨x1, x2, x3, ?_⟩
      rcases ho with ⟨e1, e2, bs, e3, e4, e5⟩ | ⟨e1, e2, ps, e3, e4, e5⟩ | ho
      · exact .inl ⟨e1, e2, bs, (e3.fr f5 fun k hk e => by omega).mono fun k hk _ => (by omega), e4, e5⟩
      · exact .inr (.inl ⟨e1, e2, ps, (e3.fr f5 fun k hk e => by omega).mono fun k hk _ => (by omega), e4, e5⟩)
      · exact .inr (.inr ho)
  refine FC.seq ?_
  refine FC.seq (FC.region ?_)
  refine mv_ rfl rfl rfl ?_
  refine mv_ rfl rfl rfl ?_
  refine FL.call rfl rfl (p_call Try.func12 rfl rfl rfl) (kc) ?_
  rintro e_ w_ ⟨rfl, rfl⟩
  refine ⟨_, rfl, ?_⟩
  refine sg_ rfl rfl rfl ?_
  refine FL.nilK ?_
  by_cases c1 : checkV a cs = 0
  rotate_left
  · refine FC.seq (FC.region ?_)
    refine mv_ rfl rfl rfl ?_
    refine FL.pur rfl rfl (p_neq rfl rfl (show _ = !true by simp [c1])) ?_
    refine FL.nilK ?_
    refine FC.cond_t rfl ?_
    refine FC.seq (FC.region ?_)
    refine FL.pur rfl rfl (p_build (parts := []) (fun a ha => rfl) built36e) ?_
    refine mv_ rfl rfl rfl ?_
    refine FL.sto _ rfl (p_storeA rfl rfl g1 inf36_size rfl zs_all) ?_
    refine sg_ rfl rfl rfl ?_
    refine FL.nilK ?_
    refine FC.ret ?_
    repeat with_reducible first | refine thn_ret ?_ | refine blk_ret ?_ | refine nog_ret ?_
    obtain ⟨z1, z2, z3⟩ := fin _ _ 0 (.slice none 0 0) (.slice none 0 0) (checkV a cs) rfl g1 f1 (.inl ⟨.inl ⟨c1, rfl⟩, rfl, rfl, rfl⟩)
    exact retC2 Try.results21 rfl rfl z1 Try.underlying36 rfl inf36_size ⟨0, _, _, _, rfl, z3, z2⟩
  refine FC.seq (FC.region ?_)
  refine mv_ rfl rfl rfl ?_
  refine FL.pur rfl rfl (p_neq rfl rfl (show _ = !false by simp [c1])) ?_
  refine FL.nilK ?_
  refine FC.cond_f rfl (FC.skip (thn_normal ?_))
  refine FC.seq ?_
  refine FC.seq (FC.region ?_)
  refine mv_ rfl rfl rfl ?_
  refine FL.pur rfl rfl (p_lss rfl rfl rfl) ?_
  refine FL.nilK ?_
  by_cases c2 : limit < 0
  · refine FC.cond_t (by rw [show decide (limit < 0) = true from decide_eq_true c2]; rfl) ?_
    refine FC.seq (FC.region ?_)
    refine FL.pur rfl rfl (p_build (parts := []) (fun a ha => rfl) built36e) ?_
    refine FL.sto _ rfl (p_storeA rfl rfl g1 inf36_size rfl zs_all) ?_
    refine sg_ rfl rfl rfl ?_
    refine FL.nilK ?_
    refine FC.ret ?_
    repeat with_reducible first | refine thn_ret ?_ | refine blk_ret ?_ | refine nog_ret ?_
    obtain ⟨z1, z2, z3⟩ := fin _ _ 0 (.slice none 0 0) (.slice none 0 0) 2 rfl g1 f1 (.inl ⟨.inr ⟨c1, c2, rfl⟩, rfl, rfl, rfl⟩)
    exact retC2 Try.results21 rfl rfl z1 Try.underlying36 rfl inf36_size ⟨0, _, _, _, rfl, z3, z2⟩
  refine FC.cond_f (by rw [show decide (limit < 0) = false from decide_eq_false c2]; rfl) (FC.skip (thn_normal ?_))
  obtain ⟨b1, b2, b3, b4⟩ := checkV_bad c1
  obtain ⟨m, rfl⟩ : ∃ m : Nat, a = m := ⟨a.toNat, by omega⟩
  have hn1 : (((m : Nat) : Int) + 1).toNat = m + 1 := by omega
  have lit : ∀ c ∈ cs, ∀ l ∈ c, Lit (m + 1) l ∧ l ≠ 0 := fun c hc l hl => by
    have := b4 c hc l hl
    exact ⟨⟨by omega, by omega⟩, this.1⟩
  refine FC.seq (FC.region ?_)
  refine mv_ rfl rfl rfl ?_
  refine FL.call rfl rfl (p_call Try.func30 rfl rfl rfl) (begin_calls w1 m (by omega)) ?_
  rintro e_ w_ ⟨g0, V0, rfl, hs, f2⟩
  refine ⟨_, rfl, ?_⟩
  refine sg_ rfl rfl rfl ?_
  refine FL.nilK ?_
  obtain ⟨w2, hw2⟩ : ∃ w2, w2 = w_ := ⟨_, rfl⟩
  rw [← hw2] at hs f2 ⊢
  clear hw2
  have g2 := (f2.block rb s1 fun h => h).trans g1
  have f2 := f1.go f2
  have hrbB : rb < w1.heap.size := s1
  have hgr : ∀ {V' : Lay} {w' : World}, Goes g0 V0 w2 V' w' → w'.heap[rb]? = some (.cells #[.int .u8 0, .slice none 0 0, .slice none 0 0] 36 (0, 0)) := fun hG => (hG.fr.block rb (Array.getElem?_eq_some_iff.1 g2).1 fun hk => by have := hs.ge hk; omega).trans g2
  have hFw : ∀ {V' : Lay} {w' : World}, Goes g0 V0 w2 V' w' → Fr (fun _ => False) w w' := fun hG => f2.trans hG.fr fun k hk => .inr (by have := hs.ge hk; have := f1.size; omega)
  -- a refutation is handed back
  have refd : ∀ {V' : Lay} {w4 wc : World} {pv : Value} {ps : List (List Int)}, Goes g0 V0 w2 V' wc → RwsC w4 (fun k => foot g0 V' k ∨ wc.heap.size ≤ k) pv ps → Fr (foot g0 V') wc w4 → RefSpec (m : Int) cs ps ∧ (∀ c ∈ ps, c.length < m + 1) →
      w4.heap[rb]? = some (.cells #[.int .u8 0, .slice none 0 0, .slice none 0 0] 36 (0, 0)) ∧ Fr (fun _ => False) w w4 ∧ SolR (m : Int) cs limit w4 (fun k => w1.heap.size ≤ k) 2 (.slice none 0 0) pv 0 := fun {V' w4 wc pv ps} hG hrw hf hspec => by
    have hsz : w2.heap.size ≤ wc.heap.size := hG.fr.size
    have hgeB : ∀ k, foot g0 V' k → w1.heap.size ≤ k := fun k hk => by
      rcases hG.sub k hk with h2 | h2
      · exact hs.ge h2
      · have := hs.lt (k := g0) (.inl rfl); have := hs.gB; omega
    have hw12 : w1.heap.size ≤ w2.heap.size := by have := hs.lt (k := g0) (.inl rfl); have := hs.gB; omega
    refine ⟨(hf.block rb (by omega) fun hk => by have := hgeB _ hk; omega).trans (hgr hG), (hFw hG).trans hf fun k hk => .inr (by have := hgeB k hk; have := f1.size; omega), .inr ⟨c1, by omega, rfl, .inr (.inl ⟨rfl, rfl, ps, hrw.mono fun k hk _ => ?_, ?_⟩)⟩⟩
    · exact hk.elim (hgeB k) fun h => by omega
    · rw [hn1, show (((m + 1 : Nat) : Int)) - 1 = (m : Int) by omega]; exact hspec
  refine FC.cut (σ := S × Lay) (fun _ => [(0, .int .i64 m), (2, .int .i64 limit), (6, .pointer (some ⟨rb, 0, none⟩)), (9, .pointer (some ⟨g0, 0, none⟩))]) (fun x w3 => Srch w3 w1.heap.size g0 x.1 x.2 ∧ Goes g0 V0 w2 x.2 w3 ∧ Ini cs x.1 (m + 1) cs.length) ?_ ?_
  · refine FC.seq (FC.region ?_)
    refine mv_ rfl rfl rfl ?_
    refine FL.pur rfl rfl (p_len rfl Try.underlying22) ?_
    refine mv_ rfl rfl rfl ?_
    refine FL.nilK ?_
    refine FC.block ?_
    refine FC.loop (σ := Nat × S × Lay) (fun x => [(0, .int .i64 m), (2, .int .i64 limit), (6, .pointer (some ⟨rb, 0, none⟩)), (9, .pointer (some ⟨g0, 0, none⟩)), (26, .slice A cs.length cap), (27, .int .i64 cs.length), (28, .int .i64 x.1)]) (fun x w3 => Srch w3 w1.heap.size g0 x.2.1 x.2.2 ∧ Goes g0 V0 w2 x.2.2 w3 ∧ Ini (cs.take x.1) x.2.1 (m + 1) x.1 ∧ x.1 ≤ cs.length) (fun x => cs.length - x.1) (0, beginS m, V0) ⟨hs, Goes.refl g0 V0 w2, by rw [List.take_zero]; exact Ini.new m (by omega), Nat.zero_le _⟩ ⟨rfl, rfl, rfl, rfl, rfl, rfl, rfl, trivial⟩ ?_
    rintro ⟨i, s, V⟩ w3 ⟨h3, G3, hI, hi⟩
    simp only at h3 G3 hI hi ⊢
    refine FC.seq (FC.region ?_)
    refine FL.pur rfl rfl (p_lss rfl rfl rfl) ?_
    refine FL.nilK ?_
    refine FC.seq ?_
    refine FC.cond (decide ((i : Int) < (cs.length : Int))) rfl (fun hcc => FC.skip (thn_normal ?_)) (fun hcc => FC.exit ?_)
    rotate_left
    · have hge : ¬ (i : Int) < (cs.length : Int) := of_decide_eq_false hcc
      have e : i = cs.length := by omega
      subst e
      rw [List.take_of_length_le (Nat.le_refl _)] at hI
      exact thn_exit (thn_exit (blk_exit ⟨(s, V), ⟨rfl, rfl, rfl, rfl, trivial⟩, h3, G3, hI⟩))
    have hlt : i < cs.length := by have := of_decide_eq_true hcc; omega
    obtain ⟨ad, u, rfl, hadB, hcu, hru⟩ := hc i hlt
    have hcu : w3.cell? (ad.add (i : Int).toNat) = some u := (hFw G3).cell hcu fun h => h
    have hru : Row w3 B u (cs.getD i []) := hru.fr (hFw G3) fun _ _ h => h
    have hd : cs.getD i [] ∈ cs := mem_getD hlt
    have hq := hll _ hd
    have hlitc := lit _ hd
    have htk : cs.take (i + 1) = cs.take i ++ [cs.getD i []] := take_snoc cs i hlt
    have hBw3 : B ≤ w3.heap.size := by have := (hFw G3).size; omega
    have kcl := clean_calls (n := m + 1) hru (fun l hl => (hlitc l hl).1) (by omega) hq hBw3
    refine FC.seq ?_
    refine FC.block ?_
    refine FC.seq (FC.region ?_)
    refine FL.pur rfl rfl (p_indexA rfl rfl Try.underlying22 inf41_eq inf41_size (by omega) (by omega)) ?_
    refine FL.val _ _ rfl rfl (p_load rfl Try.underlying41 rfl hcu) ?_
    refine sg_ rfl rfl rfl ?_
    refine FL.nilK ?_
    cases hcl : cleanL (cs.getD i []) [] with
    | none =>
      have kc2 : Calls Try.prog 32 #[u] w3 fun e w' => e = .returned (.tuple #[.slice none 0 0, .bool false]) ∧ Fr (fun _ => False) w3 w' := kcl.mono fun e w' ⟨hf, h⟩ => by
        rcases h with ⟨_, he⟩ | ⟨c, v', h2, _⟩
        · exact ⟨he, hf⟩
        · rw [hcl] at h2; cases h2
      refine FC.seq (FC.region ?_)
      refine mv_ rfl rfl rfl ?_
      refine FL.call rfl rfl (p_call Try.func32 rfl rfl rfl) (kc2) ?_
      rintro e_ w_ ⟨rfl, f4⟩
      refine ⟨_, rfl, ?_⟩
      refine mv_ rfl rfl rfl ?_
      refine FL.pur rfl rfl (p_extract rfl rfl) ?_
      refine FL.pur rfl rfl (p_extract rfl rfl) ?_
      refine sg_ rfl rfl rfl ?_
      refine sg_ rfl rfl rfl ?_
      refine FL.nilK ?_
      refine FC.seq (FC.region ?_)
      refine mv_ rfl rfl rfl ?_
      refine mv_ rfl rfl rfl ?_
      refine FL.off rfl rfl ?_
      refine FL.off rfl rfl ?_
      refine FL.off rfl rfl ?_
      refine FL.off rfl rfl ?_
      refine FL.pur rfl rfl (p_pick_f rfl rfl) ?_
      refine FL.nilK ?_
      refine FC.cond_f rfl (FC.skip ?_)
      refine blk_normal (thn_normal ?_)
      refine FC.region ?_
      refine FL.pur rfl rfl (p_add rfl rfl ((wr (by omega) (by omega)).trans (show (i : Int) + 1 = ((i + 1 : Nat) : Int) by omega))) ?_
      refine mv_ rfl rfl rfl ?_
      refine FL.nil ?_
      exact ⟨(i + 1, s, V), ⟨rfl, rfl, rfl, rfl, rfl, rfl, rfl, trivial⟩, ⟨h3.fr f4 fun _ h => h.elim, G3.next f4 fun _ h => h.elim, by rw [htk]; exact hI.skip hlitc (by omega) (.inl (clean_none hcl)), hlt⟩, by show cs.length - (i + 1) < cs.length - i; omega⟩
    | some own =>
      have kc2 : Calls Try.prog 32 #[u] w3 fun e w' => ∃ v', e = .returned (.tuple #[v', .bool true]) ∧ w'.ownsRow w3.heap.size 3 1 v' own.length (nums .i64 own) ∧ Fr (fun _ => False) w3 w' := kcl.mono fun e w' ⟨hf, h⟩ => by
        rcases h with ⟨h2, _⟩ | ⟨c, v', h2, he, ho⟩
        · rw [hcl] at h2; cases h2
        · rw [hcl] at h2; injection h2 with h2; subst h2; exact ⟨v', he, ho, hf⟩
      obtain ⟨_, hmem⟩ := clean_some hcl
      refine FC.seq (FC.region ?_)
      refine mv_ rfl rfl rfl ?_
      refine FL.call rfl rfl (p_call Try.func32 rfl rfl rfl) (kc2) ?_
      rintro e_ w_ ⟨v', rfl, ho, f4⟩
      refine ⟨_, rfl, ?_⟩
      refine mv_ rfl rfl rfl ?_
      refine FL.pur rfl rfl (p_extract rfl rfl) ?_
      refine FL.pur rfl rfl (p_extract rfl rfl) ?_
      refine sg_ rfl rfl rfl ?_
      refine sg_ rfl rfl rfl ?_
      refine FL.nilK ?_
      have h4 := h3.fr f4 fun _ h => h.elim
      have G4 := G3.next f4 fun _ h => h.elim
      have hO : Own w_ w1.heap.size g0 V v' own := ⟨ownsRow_base ho (by have := h3.lt (k := g0) (.inl rfl); have := h3.gB; omega), fun k hk hf => by have := (ho.lt k hk).1; have := h3.lt hf; omega⟩
      have hok := hI.okN
      have ka := add_calls h4 hok.good.fine hO (fun l hl => (hlitc l ((hmem l).1 hl)).1) fun l hl => by
        obtain ⟨q, q1, rfl⟩ := List.mem_iff_getElem.1 hl
        have := le_sum s.watch q
        rw [List.getD_eq_getElem?_getD, List.getElem?_eq_getElem q1] at this
        have := hok.good.ws
        simp only [Option.getD_some] at *
        omega
      rcases hI.add hlitc (by omega) hcl with ⟨e1, hI2⟩ | ⟨e1, e2, hconf⟩
      · rw [e1] at ka
        refine FC.seq (FC.region ?_)
        refine mv_ rfl rfl rfl ?_
        refine mv_ rfl rfl rfl ?_
        refine mv_ rfl rfl rfl ?_
        refine mv_ rfl rfl rfl ?_
        refine FL.call rfl rfl (p_call Try.func36 rfl rfl rfl) (ka) ?_
        rintro e_ w_ ⟨rfl, V5, h5, GX⟩
        refine ⟨_, rfl, ?_⟩
        refine FL.pur rfl rfl (p_not rfl) ?_
        refine FL.pur rfl rfl (p_pick_t rfl rfl) ?_
        refine FL.nilK ?_
        refine FC.cond_f rfl (FC.skip ?_)
        have G5 := G4.thenX GX fun k hk => by have := (ho.lt k hk).1; have := G3.fr.size; omega
        refine blk_normal (thn_normal ?_)
        refine FC.region ?_
        refine FL.pur rfl rfl (p_add rfl rfl ((wr (by omega) (by omega)).trans (show (i : Int) + 1 = ((i + 1 : Nat) : Int) by omega))) ?_
        refine mv_ rfl rfl rfl ?_
        refine FL.nil ?_
        exact ⟨(i + 1, (addS s own).1, V5), ⟨rfl, rfl, rfl, rfl, rfl, rfl, rfl, trivial⟩, ⟨h5, G5, by rw [htk]; exact hI2, hlt⟩, by show cs.length - (i + 1) < cs.length - i; omega⟩
      · rw [e1, e2] at ka
        refine FC.seq (FC.region ?_)
        refine mv_ rfl rfl rfl ?_
        refine mv_ rfl rfl rfl ?_
        refine mv_ rfl rfl rfl ?_
        refine mv_ rfl rfl rfl ?_
        refine FL.call rfl rfl (p_call Try.func36 rfl rfl rfl) (ka) ?_
        rintro e_ w_ ⟨rfl, V5, h5, GX⟩
        refine ⟨_, rfl, ?_⟩
        refine FL.pur rfl rfl (p_not rfl) ?_
        refine FL.pur rfl rfl (p_pick_t rfl rfl) ?_
        refine FL.nilK ?_
        have G5 := G4.thenX GX fun k hk => by have := (ho.lt k hk).1; have := G3.fr.size; omega
        refine FC.cond_t rfl ?_
        have hprf : s.proof ++ [[]] = [[]] := by rw [hI.prf]; rfl
        have hsp : RefSpec (m : Int) cs [[]] ∧ ∀ c ∈ ([[]] : List (List Int)), c.length < m + 1 := by
          refine ⟨⟨c1, by simp, ?_, by simp, by simp, fun j hj => ?_⟩, fun c hc => by rw [List.mem_singleton.1 hc]; simp⟩
          · unfold checkV
            rw [if_neg (by simp [longB]; omega), if_neg (by simp)]
          · have : j = 0 := by simpa using hj
            subst this
            right
            refine (show Conf cs (fun _ => False) from ?_).more (fun d hd => by simpa using hd) fun _ h => h.elim
            exact hconf.more (fun d hd => by rw [← htk] at hd; exact List.mem_of_mem_take hd) fun _ h => h
        refine FC.seq (FC.region ?_)
        refine mv_ rfl rfl rfl ?_
        refine FL.call rfl rfl (p_call Try.func41 rfl rfl rfl) (refuted_calls h5 (by rw [hI.prf]; simp)) ?_
        rintro e_ w_ ⟨pv, rfl, hrw, f6⟩
        refine ⟨_, rfl, ?_⟩
        rw [hprf] at hrw
        obtain ⟨y1, y2, y3⟩ := refd G5 hrw f6 hsp
        have hpv1 : pv.oneCell' = true := by { obtain ⟨⟨A', c', rfl, _⟩, _⟩ := hrw; rfl }
        refine FL.sto _ rfl (p_storeA rfl rfl y1 inf36_size rfl (all3 rfl rfl hpv1)) ?_
        refine sg_ rfl rfl rfl ?_
        refine FL.nilK ?_
        refine FC.ret ?_
        repeat with_reducible first | refine thn_ret ?_ | refine blk_ret ?_ | refine nog_ret ?_
        obtain ⟨z1, z2, z3⟩ := fin _ _ 2 (.slice none 0 0) pv 0 rfl y1 y2 y3
        exact retC2 Try.results21 rfl rfl z1 Try.underlying36 rfl inf36_size ⟨2, _, pv, 0, rfl, z3, z2⟩
  rintro ⟨s, V⟩ w3 ⟨h3, G3, hI⟩
  simp only at h3 G3 hI ⊢
  have kr := run_calls (Φ0 := cs) (n := m + 1) (N0 := cs.length) h3 hI.run hI.pro hI.prf limit (decide ((m : Int) ≤ 14)) (fun h => by have := of_decide_eq_true h; omega) b3 (by omega) (by omega) (by rw [show (((m + 1 : Nat) : Int)) - 1 = (m : Int) by omega]; exact c1)
  refine FC.seq (FC.region ?_)
  refine mv_ rfl rfl rfl ?_
  refine mv_ rfl rfl rfl ?_
  refine mv_ rfl rfl rfl ?_
  refine FL.pur rfl rfl (p_leq rfl rfl rfl) ?_
  refine FL.call rfl rfl (p_call Try.func42 rfl rfl rfl) (kr) ?_
  rintro e_ w_ ⟨ans, mv, pv, rfl, hout, f4⟩
  refine ⟨_, rfl, ?_⟩
  have hgeB : ∀ k, foot g0 V k → w1.heap.size ≤ k := fun k hk => h3.ge hk
  have hw13 : w1.heap.size ≤ w3.heap.size := (by have := h3.lt (k := g0) (.inl rfl); have := h3.gB; omega)
  have y1 := (f4.block rb (by omega) fun hk => by have := hgeB _ hk; omega).trans (hgr G3)
  have y2 := (hFw G3).trans f4 fun k hk => .inr (by have := hgeB k hk; have := f1.size; omega)
  have y3 : SolR (m : Int) cs limit w_ (fun k => w1.heap.size ≤ k) ans mv pv 0 := .inr ⟨c1, by omega, rfl, by rw [hn1]; exact hout⟩
  have hone : mv.oneCell' = true ∧ pv.oneCell' = true := by { rcases hout with ⟨_, rfl, bs, ⟨A', c', rfl, _⟩, _⟩ | ⟨_, rfl, ps, ⟨⟨A', c', rfl, _⟩, _⟩, _⟩ | ⟨_, _, rfl, rfl⟩ <;> exact ⟨rfl, rfl⟩ }
  refine FL.sto _ rfl (p_storeA rfl rfl y1 inf36_size rfl (all3 rfl hone.1 hone.2)) ?_
  refine sg_ rfl rfl rfl ?_
  refine FL.nilK ?_
  refine FC.ret ?_
  repeat with_reducible first | refine thn_ret ?_ | refine blk_ret ?_ | refine nog_ret ?_
  obtain ⟨z1, z2, z3⟩ := fin _ _ ans mv pv 0 rfl y1 y2 y3
  exact retC2 Try.results21 rfl rfl z1 Try.underlying36 rfl inf36_size ⟨ans, mv, pv, 0, rfl, z3, z2⟩
end
end Go.Proofs.Ytcahhbcehnbdkaa.Sv

/- What holds of answers; rows that are written down; three, large. -/
namespace Go.Proofs.Ytcahhbcehnbdkaa.Sv
open Go.RowKit Go.Proofs.YtcahhbcehnbdkaaW.PrintWords Go.Proofs.YtcahhbcehnbdkaaW.PrintLast Go.Proofs.Ytcahhbcehnbdkaa.Eng
section
variable {cs ps Φ : List (List Int)} {bs : List Bool} {A : Int → Prop} {a : Int}
/-- A model: every clause holds by it. -/
def Sat (cs : List (List Int)) (bs : List Bool) : Prop := (cs.all fun c => c.any (isB bs)) = true
instance : Decidable (Sat cs bs) := inferInstanceAs (Decidable (_ = true))
theorem Sat.at (h : Sat cs bs) {c : List Int} (hc : c ∈ cs) : ∃ l ∈ c, isB bs l = true := by
  have := List.all_eq_true.1 h c hc
  simpa using this
theorem sat_of (h : ∀ c ∈ cs, ∃ l ∈ c, isB bs l = true) : Sat cs bs := List.all_eq_true.2 fun c hc => by simpa using h c hc
theorem isB_neg {l : Int} (h : isB bs l = true) : isB bs (-l) = false := by
  unfold isB at *
  by_cases h1 : 0 < l ∧ l ≤ bs.length
  · rw [if_pos h1] at h
    rw [if_neg (by omega), if_pos (by omega), show - -l - 1 = l - 1 by omega, h]; rfl
  · rw [if_neg h1] at h
    by_cases h2 : l < 0 ∧ -(bs.length : Int) ≤ l
    · rw [if_pos h2] at h
      rw [if_pos (by omega)]
      simpa using h
    · rw [if_neg h2] at h; cases h
theorem isB_or {l : Int} (h0 : l ≠ 0) (h1 : -(bs.length : Int) ≤ l) (h2 : l ≤ bs.length) (h : isB bs l = false) : isB bs (-l) = true := by
  unfold isB at *
  by_cases h3 : 0 < l ∧ l ≤ bs.length
  · rw [if_pos h3] at h
    rw [if_neg (by omega), if_pos (by omega), show - -l - 1 = l - 1 by omega, h]; rfl
  · rw [if_neg h3, if_pos (by omega)] at h
    rw [if_pos (by omega)]
    simpa using h
theorem D.sound (hm : Sat Φ bs) (hA : ∀ l, A l → isB bs l = true) {l : Int} (h : D Φ A l) : isB bs l = true := by
  induction h with
  | base h => exact hA _ h
  | @unit c l h1 h2 h3 ih =>
    obtain ⟨m, m1, m2⟩ := hm.at h1
    by_cases e : m = l
    · rw [← e]; exact m2
    · have h4 := ih m m1 e
      have h5 := isB_neg h4
      rw [Int.neg_neg, m2] at h5
      cases h5
theorem Conf.sound (hm : Sat Φ bs) (hA : ∀ l, A l → isB bs l = true) : ¬ Conf Φ A := fun ⟨c, h1, h2⟩ => by
  obtain ⟨m, m1, m2⟩ := hm.at h1
  have h5 := isB_neg (D.sound hm hA (h2 m m1))
  rw [Int.neg_neg, m2] at h5
  cases h5
/-- Steps that follow hold by each model. -/
theorem steps_sat (hn : (bs.length : Int) = a) (hm : Sat cs bs) (hp : checkV a ps = 0) (h : ∀ i, i < ps.length → Taut (ps.getD i []) ∨ Conf (cs ++ ps.take i) fun l => -l ∈ ps.getD i []) : Sat ps bs := by
  have hb := (checkV_bad hp).2.2.2
  have key : ∀ k, k ≤ ps.length → Sat (ps.take k) bs := fun k => by
    induction k with
    | zero => intro _; rw [List.take_zero]; rfl
    | succ k ih =>
      intro hk
      have ih := ih (by omega)
      have hmem : ps.getD k [] ∈ ps := mem_getD (by omega)
      have hall : Sat (cs ++ ps.take k) bs := by
        unfold Sat at *
        rw [List.all_append, hm, ih]; rfl
      have : ∃ l ∈ ps.getD k [], isB bs l = true := by
        apply Classical.byContradiction
        intro hno
        have hno : ∀ l ∈ ps.getD k [], isB bs l = false := fun l hl => by
          cases e : isB bs l with
          | false => rfl
          | true => exact absurd ⟨l, hl, e⟩ hno
        have htot : ∀ l ∈ ps.getD k [], isB bs (-l) = true := fun l hl => by
          have := hb _ hmem l hl
          exact isB_or this.1 (by omega) (by omega) (hno l hl)
        rcases h k (by omega) with ⟨l, h1, h2⟩ | h1
        · have := htot l h1
          rw [hno _ h2] at this; cases this
        · exact Conf.sound hall (fun l hl => by
            have := htot _ hl
            rwa [Int.neg_neg] at this) h1
      rw [take_snoc ps k (by omega)]
      unfold Sat at *
      rw [List.all_append, ih]
      simpa using this
  have := key ps.length (Nat.le_refl _)
  rwa [List.take_of_length_le (Nat.le_refl _)] at this
theorem RefSpec.none (h : RefSpec a cs ps) (hn : (bs.length : Int) = a) : ¬ Sat cs bs := fun hm => by
  obtain ⟨_, _, h3, h4, h5, h6⟩ := h
  obtain ⟨l, hl, _⟩ := (steps_sat hn hm h3 h6).at (mem_getD (d := []) (show ps.length - 1 < ps.length by omega))
  have e := List.length_eq_zero_iff.1 h5
  rw [e] at hl
  cases hl
def exThree : List (List Int) := [[1, 2], [-1, 2], [1, -2]]
def exFour : List (List Int) := exThree ++ [[-1, -2]]
theorem three_sat : Sat exThree [true, true] := by decide
theorem four_unsat : ∀ bs : List Bool, bs.length = 2 → ¬ Sat exFour bs
  | [x, y], _ => by cases x <;> cases y <;> decide
theorem three_model : ∀ bs : List Bool, bs.length = 2 → Sat exThree bs → bs = [true, true]
  | [x, y], _, h => by cases x <;> cases y <;> first | rfl | exact absurd h (by decide)
theorem four_ref : RefSpec 2 exFour [[2], []] := by
  refine ⟨by decide, by decide, by decide, by decide, rfl, fun i hi => .inr ?_⟩
  have hi : i < 2 := hi
  rcases (show i = 0 ∨ i = 1 by omega) with rfl | rfl
  · have h2 : D (exFour ++ ([[2], []] : List (List Int)).take 0) (fun l => -l ∈ (([[2], []] : List (List Int)).getD 0 [])) (-2) := .base (by decide)
    have h1 : D (exFour ++ ([[2], []] : List (List Int)).take 0) (fun l => -l ∈ (([[2], []] : List (List Int)).getD 0 [])) 1 := .unit (c := [1, 2]) (by decide) (by decide) fun m hm hne => by
      simp at hm
      rcases hm with rfl | rfl
      · exact absurd rfl hne
      · exact h2
    exact ⟨[-1, 2], by decide, fun m hm => by
      simp at hm
      rcases hm with rfl | rfl
      · exact h1
      · exact h2⟩
  · have h2 : D (exFour ++ ([[2], []] : List (List Int)).take 1) (fun l => -l ∈ (([[2], []] : List (List Int)).getD 1 [])) 2 := .unit (c := [2]) (by decide) (by decide) fun m hm hne => by
      simp at hm
      exact absurd hm hne
    have h1 : D (exFour ++ ([[2], []] : List (List Int)).take 1) (fun l => -l ∈ (([[2], []] : List (List Int)).getD 1 [])) 1 := .unit (c := [1, -2]) (by decide) (by decide) fun m hm hne => by
      simp at hm
      rcases hm with rfl | rfl
      · exact absurd rfl hne
      · exact h2
    exact ⟨[-1, -2], by decide, fun m hm => by
      simp at hm
      rcases hm with rfl | rfl
      · exact h1
      · exact h2⟩
end
section
variable {P : Program} {ρ : Env} {dst : Option Tmp} {ty : TypeId} {pos : String} {af : Array Edge} {gd : Option (Nat × Bool)} {x y z : Operand} {t e : TypeId} {w w' : World} {B b : Nat} {inf : TypeInfo} {zv v u s : Value}
theorem p_build2 (hx : ev ρ x = some v) (hy : ev ρ y = some u) (hu : P.underlying t = some (.slice e)) (hi : P.info? e = some inf) (hs : (inf.size == 1) = true) (hz : inf.zero = some zv) (hzc : (zv.cells.size == 1) = true) (hv : v.cells = #[v]) (hw : u.cells = #[u]) :
    Val P ρ ⟨dst, .buildSlice t 2 #[(0, x), (1, y)], ty, pos, af, gd⟩ w (.slice (some ⟨w.heap.size, 0, none⟩) 2 2) (w.alloc (.cells #[v, u] e)) := fun a ha => by
  have hs' : inf.size = 1 := by simpa using hs
  have hz' : zv.cells.size = 1 := by simpa using hzc
  have h1 : (Array.range 2).map (fun q => zv.cells[q % zv.cells.size]!) = #[zv.cells[0]!, zv.cells[0]!] := by
    have : Array.range 2 = #[0, 1] := by decide
    rw [this]; simp [hz', Nat.mod_one]
  simp [execOp, Instr.buildSlice, run_underlying hu, sizeOf, typeInfo, hi, hs', zeroValue, hz, ha.ev hx, ha.ev hy, h1, Instr.fill, hv, hw, newRow, newObj, Sem.run, World.alloc_eq]
theorem p_build3 (hx : ev ρ x = some v) (hy : ev ρ y = some u) (hq : ev ρ z = some s) (hu : P.underlying t = some (.slice e)) (hi : P.info? e = some inf) (hs : (inf.size == 1) = true) (hz : inf.zero = some zv) (hzc : (zv.cells.size == 1) = true) (hv : v.cells = #[v]) (hw : u.cells = #[u]) (hss : s.cells = #[s]) :
    Val P ρ ⟨dst, .buildSlice t 3 #[(0, x), (1, y), (2, z)], ty, pos, af, gd⟩ w (.slice (some ⟨w.heap.size, 0, none⟩) 3 3) (w.alloc (.cells #[v, u, s] e)) := fun a ha => by
  have hs' : inf.size = 1 := by simpa using hs
  have hz' : zv.cells.size = 1 := by simpa using hzc
  have h1 : (Array.range 3).map (fun q => zv.cells[q % zv.cells.size]!) = #[zv.cells[0]!, zv.cells[0]!, zv.cells[0]!] := by
    have : Array.range 3 = #[0, 1, 2] := by decide
    rw [this]; simp [hz', Nat.mod_one]
  simp [execOp, Instr.buildSlice, run_underlying hu, sizeOf, typeInfo, hi, hs', zeroValue, hz, ha.ev hx, ha.ev hy, ha.ev hq, h1, Instr.fill, hv, hw, hss, newRow, newObj, Sem.run, World.alloc_eq]
theorem own_lit (w : World) (e : TypeId) (vs : Array Value) (hB : B ≤ w.heap.size) (hs : vs.size ≤ 9223372036854775807) : (w.alloc (.cells vs e)).ownsRow B e 1 (.slice (some ⟨w.heap.size, 0, none⟩) vs.size vs.size) vs.size vs.toList :=
  ⟨by simp, .inr ⟨w.heap.size, vs.size, vs, rfl, hB, heap_alloc_new w _, Nat.le_refl _, hs, by simp, by rw [Nat.mul_one, List.take_of_length_le (by simp)]⟩⟩
theorem rowP_lit {P : Nat → Prop} {c : List Int} (h : w.heap[b]? = some (.cells (nums .i64 c).toArray 3 (0, 0))) (hP : P b) : RowP w P (.slice (some ⟨b, 0, none⟩) c.length c.length) c := by
  refine ⟨_, _, rfl, fun i hi => ⟨_, rfl, hP, ?_⟩⟩
  have : (nums .i64 c).toArray[i]? = some (.int .i64 (g c i)) := by simp [nums, g, List.getElem?_eq_getElem hi]
  have e : (⟨b, 0, none⟩ : Addr).add i = ⟨b, i, none⟩ := by unfold Addr.add; split <;> simp_all
  rw [e]
  simp only [World.cell?, h]
  simpa using this
end
end Go.Proofs.Ytcahhbcehnbdkaa.Sv

/- Walks of three, large, right, alive. -/
namespace Go.Proofs.Ytcahhbcehnbdkaa.Sv
open Go.RowKit Go.Proofs.YtcahhbcehnbdkaaW.PrintWords Go.Proofs.YtcahhbcehnbdkaaW.PrintLast Go.Proofs.Ytcahhbcehnbdkaa.Eng
section
variable {w w' : World} {B b : Nat} {P : Nat → Prop} {v u : Value} {cs ps : List (List Int)} {bs : List Bool}
theorem cell_row {cells : Array Value} {t : TypeId} {i : Nat} (h : w.heap[b]? = some (.cells cells t (0, 0))) (hi : cells[i]? = some u) : w.cell? ⟨b, i, none⟩ = some u := by
  simp only [World.cell?, h]
  simpa using hi
theorem three_calls (w : World) : Calls Try.prog 23 #[] w fun e w' => ∃ v, e = .returned v ∧ AllRow w' w.heap.size (fun k => w.heap.size ≤ k) v exThree ∧ Fr (fun _ => False) w w' := by
  refine calls_of_FC (N := 5) (vs := []) Try.func23 rfl Try.ntmps23 (Nat.le_of_ble_eq_true rfl) ?_
  refine FC.seq (FC.region ?_)
  refine sg_ rfl rfl rfl ?_
  refine FL.nilK ?_
  refine FC.seq (FC.region ?_)
  refine FL.val _ _ rfl rfl (p_build2 rfl rfl Try.underlying41 inf3_eq inf3_size inf3_zero rfl rfl rfl) ?_
  refine FL.val _ _ rfl rfl (p_build2 rfl rfl Try.underlying41 inf3_eq inf3_size inf3_zero rfl rfl rfl) ?_
  refine FL.val _ _ rfl rfl (p_build2 rfl rfl Try.underlying41 inf3_eq inf3_size inf3_zero rfl rfl rfl) ?_
  refine FL.val _ _ rfl rfl (p_build3 rfl rfl rfl Try.underlying22 inf41_eq inf41_size inf41_zero rfl rfl rfl rfl) ?_
  refine sg_ rfl rfl rfl ?_
  refine FL.nilK ?_
  refine FC.ret ?_
  repeat with_reducible first | refine thn_ret ?_ | refine blk_ret ?_ | refine nog_ret ?_
  refine ret1 Try.results23 rfl ⟨_, rfl, ?_, (((Fr.refl _ w).alloc _).alloc _).alloc _ |>.alloc _⟩
  obtain ⟨w1, hw1⟩ : ∃ w1, w1 = w.alloc (.cells #[.int .i64 1, .int .i64 2] 3) := ⟨_, rfl⟩
  have r1 : RowP w1 (fun k => w.heap.size ≤ k) (.slice (some ⟨w.heap.size, 0, none⟩) 2 2) [1, 2] := rowP_lit (w := w1) (b := w.heap.size) (c := [1, 2]) (by rw [hw1]; exact heap_alloc_new w _) (Nat.le_refl _)
  have s1 : w.heap.size ≤ w1.heap.size := by rw [hw1]; exact ((Fr.refl (fun _ => False) w).alloc _).size
  rw [← hw1]
  obtain ⟨w2, hw2⟩ : ∃ w2, w2 = w1.alloc (.cells #[.int .i64 (-1), .int .i64 2] 3) := ⟨_, rfl⟩
  have f2 : Fr (fun _ => False) w1 w2 := by rw [hw2]; exact (Fr.refl _ _).alloc _
  have r2 : RowP w2 (fun k => w.heap.size ≤ k) (.slice (some ⟨w1.heap.size, 0, none⟩) 2 2) [-1, 2] := rowP_lit (w := w2) (b := w1.heap.size) (c := [-1, 2]) (by rw [hw2]; exact heap_alloc_new w1 _) s1
  rw [← hw2]
  obtain ⟨w3, hw3⟩ : ∃ w3, w3 = w2.alloc (.cells #[.int .i64 1, .int .i64 (-2)] 3) := ⟨_, rfl⟩
  have f3 : Fr (fun _ => False) w2 w3 := by rw [hw3]; exact (Fr.refl _ _).alloc _
  have r3 : RowP w3 (fun k => w.heap.size ≤ k) (.slice (some ⟨w2.heap.size, 0, none⟩) 2 2) [1, -2] := rowP_lit (w := w3) (b := w2.heap.size) (c := [1, -2]) (by rw [hw3]; exact heap_alloc_new w2 _) (by have := f2.size; omega)
  rw [← hw3]
  have r2 := r2.fr f3 fun _ _ h => h
  have r1 := (r1.fr f2 fun _ _ h => h).fr f3 fun _ _ h => h
  have s3 : w.heap.size ≤ w3.heap.size := by have := f2.size; have := f3.size; omega
  have f4 : ∀ o, Fr (fun _ => False) w3 (w3.alloc o) := fun o => (Fr.refl _ _).alloc o
  have up : ∀ {u c} o, RowP w3 (fun k => w.heap.size ≤ k) u c → RowP (w3.alloc o) (fun k => w.heap.size ≤ k ∧ ¬ (some w3.heap.size = some k)) u c := fun o h =>
    ((h.mono (Q := fun k => w.heap.size ≤ k ∧ k < w3.heap.size) fun k hk hl => ⟨hk, hl⟩).fr (f4 o) fun _ _ h => h).mono fun k hk _ => ⟨hk.1, fun e => by injection e with e; omega⟩
  refine ⟨[_, _, _], own_lit w3 41 #[_, _, _] s3 (by simp), fun i hi => ?_⟩
  have hi : i < 3 := hi
  rcases (show i = 0 ∨ i = 1 ∨ i = 2 by omega) with rfl | rfl | rfl
  · exact ⟨_, rfl, up _ r1⟩
  · exact ⟨_, rfl, up _ r2⟩
  · exact ⟨_, rfl, up _ r3⟩
/-- More than the laws look at. -/
def largeV (a : Int) (cs : List (List Int)) : Bool := decide (a < 0) || decide (24 < a) || decide (120 < cs.length) || manyV cs 500
theorem large_no {a : Int} (h : largeV a cs = false) : 0 ≤ a ∧ a ≤ 24 ∧ cs.length ≤ 120 ∧ manyV cs 500 = false := by
  simp only [largeV, Bool.or_eq_false_iff, decide_eq_false_iff_not] at h
  exact ⟨by omega, by omega, by omega, h.2⟩
theorem large_calls (a : Int) (h : RwsP w P v cs) (hn : cs.length < 4611686018427387904) (hl : ∀ c ∈ cs, c.length < 4611686018427387904) : Calls Try.prog 20 #[.int .i64 a, v] w fun e w' => e = .returned (.bool (largeV a cs)) ∧ w = w' := by
  have km := many_calls h 500 (by omega) hn hl
  obtain ⟨A, cap, rfl, _⟩ := h
  refine calls_of_FC (N := 20) (vs := [.int .i64 a, .slice A cs.length cap]) Try.func20 rfl Try.ntmps20 (Nat.le_of_ble_eq_true rfl) ?_
  refine FC.seq (FC.region ?_)
  refine sg_ rfl rfl rfl ?_
  refine FL.nilK ?_
  by_cases h1 : a < 0
  · refine FC.seq (FC.region ?_)
    refine mv_ rfl rfl rfl ?_
    refine FL.pur rfl rfl (p_lss rfl rfl (decide_eq_true h1)) ?_
    refine mv_ rfl rfl rfl ?_
    refine FL.off rfl rfl ?_
    refine FL.off rfl rfl ?_
    refine FL.pur rfl rfl (p_pick_t rfl rfl) ?_
    refine mv_ rfl rfl rfl ?_
    refine FL.off rfl rfl ?_
    refine FL.off rfl rfl ?_
    refine FL.off rfl rfl ?_
    refine FL.pur rfl rfl (p_pick_t rfl rfl) ?_
    refine mv_ rfl rfl rfl ?_
    refine FL.off rfl rfl ?_
    refine FL.off rfl rfl ?_
    refine FL.pur rfl rfl (p_pick_t rfl rfl) ?_
    refine sg_ rfl rfl rfl ?_
    refine FL.nilK ?_
    refine FC.ret ?_
    repeat with_reducible first | refine thn_ret ?_ | refine blk_ret ?_ | refine nog_ret ?_
    exact ret1 Try.results20 rfl ⟨by unfold largeV; rw [decide_eq_true h1]; rfl, rfl⟩
  by_cases h2 : 24 < a
  · refine FC.seq (FC.region ?_)
    refine mv_ rfl rfl rfl ?_
    refine FL.pur rfl rfl (p_lss rfl rfl (decide_eq_false h1)) ?_
    refine mv_ rfl rfl rfl ?_
    refine mv_ rfl rfl rfl ?_
    refine FL.pur rfl rfl (p_gtr rfl rfl (decide_eq_true h2)) ?_
    refine FL.pur rfl rfl (p_pick_f rfl rfl) ?_
    refine mv_ rfl rfl rfl ?_
    refine FL.off rfl rfl ?_
    refine FL.off rfl rfl ?_
    refine FL.off rfl rfl ?_
    refine FL.pur rfl rfl (p_pick_t rfl rfl) ?_
    refine mv_ rfl rfl rfl ?_
    refine FL.off rfl rfl ?_
    refine FL.off rfl rfl ?_
    refine FL.pur rfl rfl (p_pick_t rfl rfl) ?_
    refine sg_ rfl rfl rfl ?_
    refine FL.nilK ?_
    refine FC.ret ?_
    repeat with_reducible first | refine thn_ret ?_ | refine blk_ret ?_ | refine nog_ret ?_
    exact ret1 Try.results20 rfl ⟨by unfold largeV; rw [decide_eq_true h2, Bool.or_true]; rfl, rfl⟩
  by_cases h3 : 120 < cs.length
  · refine FC.seq (FC.region ?_)
    refine mv_ rfl rfl rfl ?_
    refine FL.pur rfl rfl (p_lss rfl rfl (decide_eq_false h1)) ?_
    refine mv_ rfl rfl rfl ?_
    refine mv_ rfl rfl rfl ?_
    refine FL.pur rfl rfl (p_gtr rfl rfl (decide_eq_false h2)) ?_
    refine FL.pur rfl rfl (p_pick_f rfl rfl) ?_
    refine mv_ rfl rfl rfl ?_
    refine mv_ rfl rfl rfl ?_
    refine FL.pur rfl rfl (p_len rfl Try.underlying22) ?_
    refine FL.pur rfl rfl (p_gtr rfl rfl (decide_eq_true (by omega))) ?_
    refine FL.pur rfl rfl (p_pick_f rfl rfl) ?_
    refine mv_ rfl rfl rfl ?_
    refine FL.off rfl rfl ?_
    refine FL.off rfl rfl ?_
    refine FL.pur rfl rfl (p_pick_t rfl rfl) ?_
    refine sg_ rfl rfl rfl ?_
    refine FL.nilK ?_
    refine FC.ret ?_
    repeat with_reducible first | refine thn_ret ?_ | refine blk_ret ?_ | refine nog_ret ?_
    exact ret1 Try.results20 rfl ⟨by unfold largeV; rw [decide_eq_true h3, Bool.or_true]; rfl, rfl⟩
  refine FC.seq (FC.region ?_)
  refine mv_ rfl rfl rfl ?_
  refine FL.pur rfl rfl (p_lss rfl rfl (decide_eq_false h1)) ?_
  refine mv_ rfl rfl rfl ?_
  refine mv_ rfl rfl rfl ?_
  refine FL.pur rfl rfl (p_gtr rfl rfl (decide_eq_false h2)) ?_
  refine FL.pur rfl rfl (p_pick_f rfl rfl) ?_
  refine mv_ rfl rfl rfl ?_
  refine mv_ rfl rfl rfl ?_
  refine FL.pur rfl rfl (p_len rfl Try.underlying22) ?_
  refine FL.pur rfl rfl (p_gtr rfl rfl (decide_eq_false (by omega))) ?_
  refine FL.pur rfl rfl (p_pick_f rfl rfl) ?_
  refine mv_ rfl rfl rfl ?_
  refine mv_ rfl rfl rfl ?_
  refine FL.call rfl rfl (p_call Try.func10 rfl rfl rfl) (km) ?_
  rintro e_ w_ ⟨rfl, rfl⟩
  refine ⟨_, rfl, ?_⟩
  refine FL.pur rfl rfl (p_pick_f rfl rfl) ?_
  refine sg_ rfl rfl rfl ?_
  refine FL.nilK ?_
  refine FC.ret ?_
  repeat with_reducible first | refine thn_ret ?_ | refine blk_ret ?_ | refine nog_ret ?_
  exact ret1 Try.results20 rfl ⟨by unfold largeV; rw [decide_eq_false h1, decide_eq_false h2, decide_eq_false h3]; rfl, rfl⟩

set_option maxHeartbeats 1000000 in
theorem right_calls {Pr : Nat → Prop} {ans : Int} {mv pv : Value} (a : Int) (ha : 0 ≤ a ∧ a ≤ 5000) (h1 : Rws w B v cs) (hB : B ≤ w.heap.size) (hn : cs.length < 4611686018427387904) (hl : ∀ c ∈ cs, c.length < 1099511627776 ∧ Small64 c) (ho : OutR cs (a + 1).toNat (decide (a ≤ 14)) w Pr ans mv pv) :
    Calls Try.prog 22 #[.int .i64 a, v, .agg #[.int .u8 ans, mv, pv]] w fun e w' => e = .returned (.bool true) ∧ Fr (fun _ => False) w w' := by
  refine calls_of_FC (N := 71) (vs := [.int .i64 a, v, .agg #[.int .u8 ans, mv, pv]]) Try.func22 rfl Try.ntmps22 (Nat.le_of_ble_eq_true rfl) ?_
  refine FC.seq (FC.region ?_)
  refine FL.val _ _ rfl rfl (p_box rfl) ?_
  refine sg_ rfl rfl rfl ?_
  refine FL.nilK ?_
  obtain ⟨w1, hw1⟩ : ∃ w1, w1 = w.alloc (.cells #[.int .u8 ans, mv, pv] 36) := ⟨_, rfl⟩
  have f1 : Fr (fun _ => False) w w1 := by rw [hw1]; exact (Fr.refl _ w).alloc _
  have g1 : w1.heap[w.heap.size]? = some (.cells #[.int .u8 ans, mv, pv] 36 (0, 0)) := by rw [hw1]; exact heap_alloc_new w _
  have hw : w.heap.size < w1.heap.size := (Array.getElem?_eq_some_iff.1 g1).1
  rw [← hw1]
  generalize w.heap.size = rb at *
  have c0 : w1.cell? ⟨rb, 0, none⟩ = some (.int .u8 ans) := cell_row g1 rfl
  have c1 : w1.cell? ⟨rb, 1, none⟩ = some mv := cell_row g1 rfl
  have c2 : w1.cell? ⟨rb, 2, none⟩ = some pv := cell_row g1 rfl
  have h1 : Rws w1 w1.heap.size v cs := (h1.go f1).p.rws
  refine FC.seq ?_
  refine FC.seq (FC.region ?_)
  refine FL.pur rfl rfl (fld36_0 rfl) ?_
  refine FL.val _ _ rfl rfl (p_load rfl Try.underlying5 rfl c0) ?_
  refine FL.nilK ?_
  refine FC.block ?_
  rcases ho with ⟨rfl, rfl, bs, hb, hbl, hs⟩ | ⟨rfl, rfl, ps, hp, hsp, hpl⟩ | ⟨rfl, h14, rfl, rfl⟩
  · have hb : BRow w1 w1.heap.size mv bs := (hb.fr f1 fun _ _ h => h).mono fun k hk hl => hl
    have hb' := hb
    obtain ⟨Ab, cb, rfl, _⟩ := hb'
    have k7 := refholds_calls h1 hb hn (fun c hc => ⟨by have := (hl c hc).1; omega, (hl c hc).2⟩) (by omega)
    rw [hs] at k7
    refine FC.seq (FC.region ?_)
    refine FL.pur rfl rfl (p_eql rfl rfl rfl) ?_
    refine sg_ rfl rfl rfl ?_
    refine FL.nilK ?_
    refine FC.cond_t rfl ?_
    refine FC.seq (FC.region ?_)
    refine FL.pur rfl rfl (fld36_1 rfl) ?_
    refine FL.val _ _ rfl rfl (p_load rfl Try.underlying23 rfl c1) ?_
    refine FL.pur rfl rfl (p_len rfl Try.underlying23) ?_
    refine mv_ rfl rfl rfl ?_
    refine FL.pur rfl rfl (p_eql rfl rfl (decide_eq_true (by omega))) ?_
    refine mv_ rfl rfl rfl ?_
    refine FL.pur rfl rfl (fld36_2 rfl) ?_
    refine FL.val _ _ rfl rfl (p_load rfl Try.underlying22 rfl c2) ?_
    refine FL.pur rfl rfl (p_len rfl Try.underlying22) ?_
    refine FL.pur rfl rfl (p_eql rfl rfl (decide_eq_true (by omega))) ?_
    refine FL.pur rfl rfl (p_pick_t rfl rfl) ?_
    refine mv_ rfl rfl rfl ?_
    refine mv_ rfl rfl rfl ?_
    refine FL.pur rfl rfl (fld36_1 rfl) ?_
    refine FL.val _ _ rfl rfl (p_load rfl Try.underlying23 rfl c1) ?_
    refine FL.call rfl rfl (p_call Try.func15 rfl rfl rfl) (k7) ?_
    rintro e_ w_ ⟨rfl, rfl⟩
    refine ⟨_, rfl, ?_⟩
    refine FL.pur rfl rfl (p_pick_t rfl rfl) ?_
    refine sg_ rfl rfl rfl ?_
    refine FL.nilK ?_
    refine FC.ret ?_
    repeat with_reducible first | refine thn_ret ?_ | refine blk_ret ?_ | refine nog_ret ?_
    exact ret1 Try.results22 rfl ⟨rfl, f1⟩
  · have e1 : (((a + 1).toNat : Nat) : Int) - 1 = a := by omega
    rw [e1] at hsp
    have hp : RwsP w1 (fun k => k < w1.heap.size) pv ps := (hp.1.fr f1 fun _ _ h => h).mono fun k hk hl => hl
    have hp' := hp
    obtain ⟨Ap, cp, rfl, _⟩ := hp'
    have hp2 := hsp.2.1
    have k6 := many_calls hp 3000 (by omega) (by omega) fun c hc => by have := hpl c hc; omega
    refine FC.seq (FC.region ?_)
    refine FL.pur rfl rfl (p_eql rfl rfl rfl) ?_
    refine sg_ rfl rfl rfl ?_
    refine FL.nilK ?_
    refine FC.cond_f rfl ?_
    refine FC.seq (FC.region ?_)
    refine FL.pur rfl rfl (p_eql rfl rfl rfl) ?_
    refine sg_ rfl rfl rfl ?_
    refine FL.nilK ?_
    refine FC.cond_t rfl ?_
    cases c3 : manyV ps 3000 with
    | true =>
      rw [c3] at k6
      refine FC.seq (FC.region ?_)
      refine FL.pur rfl rfl (fld36_1 rfl) ?_
      refine FL.val _ _ rfl rfl (p_load rfl Try.underlying23 rfl c1) ?_
      refine FL.pur rfl rfl (p_len rfl Try.underlying23) ?_
      refine FL.pur rfl rfl (p_eql rfl rfl (decide_eq_true (by omega))) ?_
      refine mv_ rfl rfl rfl ?_
      refine FL.pur rfl rfl (fld36_2 rfl) ?_
      refine FL.val _ _ rfl rfl (p_load rfl Try.underlying22 rfl c2) ?_
      refine FL.pur rfl rfl (p_len rfl Try.underlying22) ?_
      refine FL.pur rfl rfl (p_leq rfl rfl (decide_eq_true (by omega))) ?_
      refine FL.pur rfl rfl (p_pick_t rfl rfl) ?_
      refine mv_ rfl rfl rfl ?_
      refine FL.pur rfl rfl (fld36_2 rfl) ?_
      refine FL.val _ _ rfl rfl (p_load rfl Try.underlying22 rfl c2) ?_
      refine FL.call rfl rfl (p_call Try.func10 rfl rfl rfl) (k6) ?_
      rintro e_ w_ ⟨rfl, rfl⟩
      refine ⟨_, rfl, ?_⟩
      refine mv_ rfl rfl rfl ?_
      refine FL.off rfl rfl ?_
      refine FL.off rfl rfl ?_
      refine FL.off rfl rfl ?_
      refine FL.off rfl rfl ?_
      refine FL.off rfl rfl ?_
      refine FL.pur rfl rfl (p_pick_t rfl rfl) ?_
      refine FL.pur rfl rfl (p_pick_t rfl rfl) ?_
      refine sg_ rfl rfl rfl ?_
      refine FL.nilK ?_
      refine FC.ret ?_
      repeat with_reducible first | refine thn_ret ?_ | refine blk_ret ?_ | refine nog_ret ?_
      exact ret1 Try.results22 rfl ⟨rfl, f1⟩
    | false =>
      rw [c3] at k6
      have k9 := refrefutes_calls a (by omega) h1.p hp (fun k hk => hk) hn (fun c hc => by have := (hl c hc).1; omega) (by omega) (fun c hc => by have := hpl c hc; omega)
      refine FC.seq (FC.region ?_)
      refine FL.pur rfl rfl (fld36_1 rfl) ?_
      refine FL.val _ _ rfl rfl (p_load rfl Try.underlying23 rfl c1) ?_
      refine FL.pur rfl rfl (p_len rfl Try.underlying23) ?_
      refine FL.pur rfl rfl (p_eql rfl rfl (decide_eq_true (by omega))) ?_
      refine mv_ rfl rfl rfl ?_
      refine FL.pur rfl rfl (fld36_2 rfl) ?_
      refine FL.val _ _ rfl rfl (p_load rfl Try.underlying22 rfl c2) ?_
      refine FL.pur rfl rfl (p_len rfl Try.underlying22) ?_
      refine FL.pur rfl rfl (p_leq rfl rfl (decide_eq_true (by omega))) ?_
      refine FL.pur rfl rfl (p_pick_t rfl rfl) ?_
      refine mv_ rfl rfl rfl ?_
      refine FL.pur rfl rfl (fld36_2 rfl) ?_
      refine FL.val _ _ rfl rfl (p_load rfl Try.underlying22 rfl c2) ?_
      refine FL.call rfl rfl (p_call Try.func10 rfl rfl rfl) (k6) ?_
      rintro e_ w_ ⟨rfl, rfl⟩
      refine ⟨_, rfl, ?_⟩
      refine mv_ rfl rfl rfl ?_
      refine mv_ rfl rfl rfl ?_
      refine mv_ rfl rfl rfl ?_
      refine FL.pur rfl rfl (fld36_2 rfl) ?_
      refine FL.val _ _ rfl rfl (p_load rfl Try.underlying22 rfl c2) ?_
      refine FL.call rfl rfl (p_call Try.func17 rfl rfl rfl) (k9) ?_
      rintro e_ w_ ⟨⟨x9, rfl, y9⟩, f9⟩
      refine ⟨_, rfl, ?_⟩
      refine FL.pur rfl rfl (p_pick_f rfl rfl) ?_
      refine FL.pur rfl rfl (p_pick_t rfl rfl) ?_
      refine sg_ rfl rfl rfl ?_
      refine FL.nilK ?_
      refine FC.ret ?_
      repeat with_reducible first | refine thn_ret ?_ | refine blk_ret ?_ | refine nog_ret ?_
      refine ret1 Try.results22 rfl ⟨?_, f1.go f9⟩
      rw [y9.2 hsp]
  · have h14 : ¬ a ≤ 14 := of_decide_eq_false h14.1
    refine FC.seq (FC.region ?_)
    refine FL.pur rfl rfl (p_eql rfl rfl rfl) ?_
    refine sg_ rfl rfl rfl ?_
    refine FL.nilK ?_
    refine FC.cond_f rfl ?_
    refine FC.seq (FC.region ?_)
    refine FL.pur rfl rfl (p_eql rfl rfl rfl) ?_
    refine sg_ rfl rfl rfl ?_
    refine FL.nilK ?_
    refine FC.cond_f rfl (FC.skip ?_)
    refine blk_normal (thn_normal ?_)
    refine FC.seq (FC.region ?_)
    refine FL.pur rfl rfl (fld36_0 rfl) ?_
    refine FL.val _ _ rfl rfl (p_load rfl Try.underlying5 rfl c0) ?_
    refine FL.pur rfl rfl (p_eql rfl rfl (decide_eq_true rfl)) ?_
    refine mv_ rfl rfl rfl ?_
    refine mv_ rfl rfl rfl ?_
    refine FL.pur rfl rfl (p_gtr rfl rfl (decide_eq_true (by omega))) ?_
    refine FL.pur rfl rfl (p_pick_t rfl rfl) ?_
    refine mv_ rfl rfl rfl ?_
    refine FL.pur rfl rfl (fld36_1 rfl) ?_
    refine FL.val _ _ rfl rfl (p_load rfl Try.underlying23 rfl c1) ?_
    refine FL.pur rfl rfl (p_len rfl Try.underlying23) ?_
    refine FL.pur rfl rfl (p_eql rfl rfl (decide_eq_true rfl)) ?_
    refine FL.pur rfl rfl (p_pick_t rfl rfl) ?_
    refine mv_ rfl rfl rfl ?_
    refine FL.pur rfl rfl (fld36_2 rfl) ?_
    refine FL.val _ _ rfl rfl (p_load rfl Try.underlying22 rfl c2) ?_
    refine FL.pur rfl rfl (p_len rfl Try.underlying22) ?_
    refine FL.pur rfl rfl (p_eql rfl rfl (decide_eq_true rfl)) ?_
    refine FL.pur rfl rfl (p_pick_t rfl rfl) ?_
    refine sg_ rfl rfl rfl ?_
    refine FL.nilK ?_
    refine FC.ret ?_
    repeat with_reducible first | refine thn_ret ?_ | refine blk_ret ?_ | refine nog_ret ?_
    exact ret1 Try.results22 rfl ⟨rfl, f1⟩
end
end Go.Proofs.Ytcahhbcehnbdkaa.Sv

/- Walk of alive: the chapter's example. -/
namespace Go.Proofs.Ytcahhbcehnbdkaa.Sv
open Go.RowKit Go.Proofs.YtcahhbcehnbdkaaW.PrintWords Go.Proofs.YtcahhbcehnbdkaaW.PrintLast Go.Proofs.Ytcahhbcehnbdkaa.Eng
section
variable {w w' : World} {B b : Nat} {P : Nat → Prop} {v u mv pv : Value} {cs ps : List (List Int)} {bs : List Bool} {ans err : Int}
theorem sol_three (h : SolR 2 exThree 10 w P ans mv pv err) : ans = 1 ∧ err = 0 ∧ pv = .slice none 0 0 ∧ BRowP w P mv [true, true] := by
  rcases h with ⟨h | h, _⟩ | ⟨_, _, h3, ⟨h4, h5, bs, h6, h7, h8⟩ | ⟨h4, _, ps, _, h7, _⟩ | ⟨_, h4, _⟩⟩
  · exact absurd (show checkV 2 exThree = 0 by decide) h.1
  · omega
  · have := three_model bs h7 h8
    subst this
    exact ⟨h4, h3, h5, h6⟩
  · exact absurd three_sat (h7.none rfl)
  · exact absurd h4.1 (by decide)
theorem sol_four (h : SolR 2 exFour 10 w P ans mv pv err) : ans = 2 ∧ err = 0 ∧ mv = .slice none 0 0 ∧ ∃ ps, RwsP w P pv ps ∧ RefSpec 2 exFour ps ∧ ∀ c ∈ ps, c.length < 3 := by
  rcases h with ⟨h | h, _⟩ | ⟨_, _, h3, ⟨h4, h5, bs, h6, h7, h8⟩ | ⟨h4, h5, ps, h6, h7, h8⟩ | ⟨_, h4, _⟩⟩
  · exact absurd (show checkV 2 exFour = 0 by decide) h.1
  · omega
  · exact absurd h8 (four_unsat bs h7)
  · exact ⟨h4, h3, h5, ps, h6.1, h7, h8⟩
  · exact absurd h4.1 (by decide)
theorem zs_size : (#[.int .u8 0, .slice none 0 0, .slice none 0 0] : Array Value).size = (#[v, u, mv] : Array Value).size := rfl
theorem all3' (h1 : u.oneCell' = true) (h2 : mv.oneCell' = true) (h3 : pv.oneCell' = true) : (#[u, mv, pv] : Array Value).all (·.oneCell') = true := all3 h1 h2 h3
/-- A solution that is stored in a variable of its own. -/
theorem put_var (w : World) (cells : Array Value) : ((w.alloc (.cells #[.int .u8 0, .slice none 0 0, .slice none 0 0] 36)).setRow w.heap.size cells).heap[w.heap.size]? = some (.cells cells 36 (0, 0)) ∧ Fr (fun _ => False) w ((w.alloc (.cells #[.int .u8 0, .slice none 0 0, .slice none 0 0] 36)).setRow w.heap.size cells) :=
  ⟨setRow_heap _ _ _ _ 36 (0, 0) (heap_alloc_new w _), ((Fr.refl _ w).alloc _).setRow _ (.inr (Nat.le_refl _))⟩
def w21 (w : World) : World := ((w.alloc (.cells #[.int .i64 2] 3)).alloc (.cells #[] 3)).alloc (.cells #[.slice (some ⟨w.heap.size, 0, none⟩) 1 1, .slice (some ⟨(w.alloc (.cells #[.int .i64 2] 3)).heap.size, 0, none⟩) 0 0] 41)
theorem lit_21 (w : World) : Rws (w21 w) (w21 w).heap.size (.slice (some ⟨((w.alloc (.cells #[.int .i64 2] 3)).alloc (.cells #[] 3)).heap.size, 0, none⟩) 2 2) [[2], []] ∧ Fr (fun _ => False) w (w21 w) := by
  unfold w21
  refine ⟨?_, ((Fr.refl _ w).alloc _).alloc _ |>.alloc _⟩
  have r1 : RowP (w.alloc (.cells #[.int .i64 2] 3)) (fun _ => True) (.slice (some ⟨w.heap.size, 0, none⟩) 1 1) [2] := rowP_lit (b := w.heap.size) (c := [2]) (heap_alloc_new w _) trivial
  obtain ⟨w1, hw1⟩ : ∃ w1, w1 = w.alloc (.cells #[.int .i64 2] 3) := ⟨_, rfl⟩
  rw [← hw1] at r1 ⊢
  obtain ⟨w2, hw2⟩ : ∃ w2, w2 = w1.alloc (.cells #[] 3) := ⟨_, rfl⟩
  have f2 : Fr (fun _ => False) w1 w2 := by rw [hw2]; exact (Fr.refl _ _).alloc _
  rw [← hw2]
  obtain ⟨w3, hw3⟩ : ∃ w3, w3 = w2.alloc (.cells #[.slice (some ⟨w.heap.size, 0, none⟩) 1 1, .slice (some ⟨w1.heap.size, 0, none⟩) 0 0] 41) := ⟨_, rfl⟩
  have f3 : Fr (fun _ => False) w2 w3 := by rw [hw3]; exact (Fr.refl _ _).alloc _
  have h3 : w3.heap[w2.heap.size]? = some (.cells #[.slice (some ⟨w.heap.size, 0, none⟩) 1 1, .slice (some ⟨w1.heap.size, 0, none⟩) 0 0] 41 (0, 0)) := by rw [hw3]; exact heap_alloc_new w2 _
  rw [← hw3]
  have r1 := (r1.fr f2 fun _ _ h => h).fr f3 fun _ _ h => h
  have r2 : RowP w3 (fun _ => True) (.slice (some ⟨w1.heap.size, 0, none⟩) 0 0) [] := ⟨_, _, rfl, fun i hi => absurd hi (Nat.not_lt_zero _)⟩
  have : RwsP w3 (fun _ => True) (.slice (some ⟨w2.heap.size, 0, none⟩) 2 2) [[2], []] := ⟨_, _, rfl, fun i hi => by
    have hi : i < 2 := hi
    rcases (show i = 0 ∨ i = 1 by omega) with rfl | rfl
    · exact ⟨_, _, rfl, trivial, cell_row h3 rfl, r1⟩
    · exact ⟨_, _, rfl, trivial, cell_row h3 rfl, r2⟩⟩
  exact this.rws
set_option maxHeartbeats 4000000 in
theorem alive_calls (w : World) : Calls Try.prog 19 #[] w fun e w' => e = .returned (.bool true) ∧ Fr (fun _ => False) w w' := by
  refine calls_of_FC (N := 79) (vs := []) Try.func19 rfl Try.ntmps19 (Nat.le_of_ble_eq_true rfl) ?_
  refine FC.seq (FC.region ?_)
  refine sg_ rfl rfl rfl ?_
  refine FL.nilK ?_
  refine FC.seq (FC.region ?_)
  refine FL.call rfl rfl (p_call Try.func23 rfl rfl rfl) (three_calls w) ?_
  rintro e_ w_ ⟨v3, rfl, h3, f3⟩
  refine ⟨_, rfl, ?_⟩
  refine FL.call rfl rfl (p_call Try.func21 rfl rfl rfl) (solve_calls 2 10 h3.rws.rws (Nat.le_refl _) (by decide) (by decide)) ?_
  rintro e_ w_ ⟨ans, mv, pv, err, rfl, hso, f4⟩
  refine ⟨_, rfl, ?_⟩
  refine mv_ rfl rfl rfl ?_
  refine FL.pur rfl rfl (p_extract rfl rfl) ?_
  refine FL.pur rfl rfl (p_extract rfl rfl) ?_
  refine FL.val _ _ rfl rfl (p_allocA inf36_eq inf36_zero) ?_
  obtain ⟨rfl, rfl, rfl, hm⟩ := sol_three hso
  have hm1 : mv.oneCell' = true := by { obtain ⟨_, _, rfl, _⟩ := hm; rfl }
  refine FL.sto _ rfl (p_storeA rfl rfl (heap_alloc_new _ _) inf36_size rfl (all3' rfl hm1 rfl)) ?_
  refine sg_ rfl rfl rfl ?_
  refine FL.nilK ?_
  obtain ⟨wa, hwa⟩ : ∃ wa, wa = w_ := ⟨_, rfl⟩
  rw [← hwa] at hm f4 ⊢
  clear hwa
  have z1 := (put_var wa #[.int .u8 1, mv, .slice none 0 0]).1
  have f5 := (put_var wa #[.int .u8 1, mv, .slice none 0 0]).2
  obtain ⟨w5, hw5⟩ : ∃ w5, w5 = ((wa.alloc (.cells #[.int .u8 0, .slice none 0 0, .slice none 0 0] 36)).setRow wa.heap.size #[.int .u8 1, mv, .slice none 0 0]) := ⟨_, rfl⟩
  rw [← hw5] at z1 f5
  have hm := hm.fr f5 fun _ _ h => h
  have fa := (f3.go f4).go f5
  obtain ⟨b1, hb1⟩ : ∃ b1, b1 = wa.heap.size := ⟨_, rfl⟩
  rw [← hb1] at z1
  have ew : (wa.alloc (.cells (Value.agg #[.int .u8 0, .slice none 0 0, .slice none 0 0]).cells 36)).setRow wa.heap.size #[.int .u8 1, mv, .slice none 0 0] = w5 := hw5.symm
  rw [ew, ← hb1]
  clear hw5 hb1 ew f3 f4 f5 h3
  refine FC.seq (FC.region ?_)
  refine FL.call rfl rfl (p_call Try.func23 rfl rfl rfl) (three_calls w5) ?_
  rintro e_ w_ ⟨v3, rfl, h3, f6⟩
  refine ⟨_, rfl, ?_⟩
  refine FL.val _ _ rfl rfl (p_build2 rfl rfl Try.underlying41 inf3_eq inf3_size inf3_zero rfl rfl rfl) ?_
  obtain ⟨wb, hwb⟩ : ∃ wb, wb = w_.alloc (.cells #[.int .i64 (-1), .int .i64 (-2)] 3) := ⟨_, rfl⟩
  have f7 : Fr (fun _ => False) w_ wb := by { rw [hwb]; exact (Fr.refl _ _).alloc _ }
  have r4 : RowP wb (fun k => w5.heap.size ≤ k ∧ ¬ v3.ownBlock = some k) (.slice (some ⟨w_.heap.size, 0, none⟩) 2 2) [-1, -2] := rowP_lit (w := wb) (b := w_.heap.size) (c := [-1, -2]) (by rw [hwb]; exact heap_alloc_new w_ _) ⟨f6.size, fun e => by { have := (h3.out.choose_spec.1.lt _ e).2; omega }⟩
  rw [← hwb]
  have h3 := h3.fr f7 (fun _ _ h => h) (fun _ _ h => h)
  refine FL.val _ _ rfl rfl (bld22 rfl rfl) ?_
  refine FL.valG _ rfl rfl (h3.app (by have := f6.size; have := f7.size; omega) (by decide) r4 rfl rfl) ?_
  rintro v4 w4 ⟨h4, f8, _⟩
  refine sg_ rfl rfl rfl ?_
  refine FL.nilK ?_
  have f8 : Fr (fun _ => False) w5 w4 := (f6.go f7).trans f8 fun k hk => .inr (h3.out.choose_spec.1.lt k hk).1
  have h4 : AllRow w4 w5.heap.size (fun k => w5.heap.size ≤ k) v4 exFour := h4
  have h4 := h4.rws.rws
  have h4' := h4
  obtain ⟨A4, cap4, rfl, _⟩ := h4'
  clear f6 f7 r4 hwb h3
  refine FC.seq (FC.region ?_)
  refine mv_ rfl rfl rfl ?_
  refine FL.call rfl rfl (p_call Try.func21 rfl rfl rfl) (solve_calls 2 10 h4 (Nat.le_refl _) (by decide) (by decide)) ?_
  rintro e_ w_ ⟨ans, mv2, pv2, err, rfl, hso2, f9⟩
  refine ⟨_, rfl, ?_⟩
  refine mv_ rfl rfl rfl ?_
  refine FL.pur rfl rfl (p_extract rfl rfl) ?_
  refine FL.pur rfl rfl (p_extract rfl rfl) ?_
  refine FL.val _ _ rfl rfl (p_allocA inf36_eq inf36_zero) ?_
  obtain ⟨rfl, rfl, rfl, ps, hp, hps, hpl⟩ := sol_four hso2
  have hp1 : pv2.oneCell' = true := by { obtain ⟨_, _, rfl, _⟩ := hp; rfl }
  refine FL.sto _ rfl (p_storeA rfl rfl (heap_alloc_new _ _) inf36_size rfl (all3' rfl rfl hp1)) ?_
  refine sg_ rfl rfl rfl ?_
  refine FL.nilK ?_
  obtain ⟨wa, hwa⟩ : ∃ wa, wa = w_ := ⟨_, rfl⟩
  rw [← hwa] at hp f9 ⊢
  clear hwa
  have z2 := (put_var wa #[.int .u8 2, .slice none 0 0, pv2]).1
  have f5 := (put_var wa #[.int .u8 2, .slice none 0 0, pv2]).2
  obtain ⟨w6, hw6⟩ : ∃ w6, w6 = ((wa.alloc (.cells #[.int .u8 0, .slice none 0 0, .slice none 0 0] 36)).setRow wa.heap.size #[.int .u8 2, .slice none 0 0, pv2]) := ⟨_, rfl⟩
  rw [← hw6] at z2 f5
  have hp : RwsP w6 (fun k => k < w6.heap.size) pv2 ps := (hp.fr f5 fun _ _ h => h).mono fun k _ hk => hk
  have h4 := (h4.go f9).go f5
  have h4r : Rws w6 w6.heap.size _ exFour := h4.p.rws
  have f95 := f9.go f5
  have fb := f8.go f95
  have z1 := (fb.block b1 (Array.getElem?_eq_some_iff.1 z1).1 fun h => h).trans z1
  have hm := hm.fr fb fun _ _ h => h
  have fa := fa.go fb
  obtain ⟨b2, hb2⟩ : ∃ b2, b2 = wa.heap.size := ⟨_, rfl⟩
  rw [← hb2] at z2
  have ew : (wa.alloc (.cells (Value.agg #[.int .u8 0, .slice none 0 0, .slice none 0 0]).cells 36)).setRow wa.heap.size #[.int .u8 2, .slice none 0 0, pv2] = w6 := hw6.symm
  rw [ew, ← hb2]
  clear hw6 hb2 ew f8 f9 f95 fb f5 hso hso2
  have a0 : w6.cell? ⟨b1, 0, none⟩ = some (.int .u8 1) := cell_row z1 rfl
  have a1 : w6.cell? ⟨b1, 1, none⟩ = some mv := cell_row z1 rfl
  have a2 : w6.cell? ⟨b1, 2, none⟩ = some (.slice none 0 0) := cell_row z1 rfl
  have e0 : w6.cell? ⟨b2, 0, none⟩ = some (.int .u8 2) := cell_row z2 rfl
  have e1 : w6.cell? ⟨b2, 1, none⟩ = some (.slice none 0 0) := cell_row z2 rfl
  have e2 : w6.cell? ⟨b2, 2, none⟩ = some pv2 := cell_row z2 rfl
  clear z1 z2
  obtain ⟨Am, cm, rfl, hmc⟩ := hm
  obtain ⟨ad, rfl, _, x0⟩ := hmc 0 (by decide)
  obtain ⟨ad', e, _, x1⟩ := hmc 1 (by decide)
  injection e with e
  subst e
  clear hmc
  have k50 := refrefutes_calls 2 (by omega) h4r.p hp (fun k hk => hk) (by decide) (by decide) (by have := hps.2.1; omega) (fun c hc => by have := hpl c hc; omega)
  refine FC.seq (FC.region ?_)
  refine mv_ rfl rfl rfl ?_
  refine FL.pur rfl rfl (p_eql rfl rfl (decide_eq_true rfl)) ?_
  refine mv_ rfl rfl rfl ?_
  refine FL.pur rfl rfl (fld36_0 rfl) ?_
  refine FL.val _ _ rfl rfl (p_load rfl Try.underlying5 rfl a0) ?_
  refine FL.pur rfl rfl (p_eql rfl rfl (decide_eq_true rfl)) ?_
  refine FL.pur rfl rfl (p_pick_t rfl rfl) ?_
  refine mv_ rfl rfl rfl ?_
  refine FL.pur rfl rfl (fld36_1 rfl) ?_
  refine FL.val _ _ rfl rfl (p_load rfl Try.underlying23 rfl a1) ?_
  refine FL.pur rfl rfl (p_len rfl Try.underlying23) ?_
  refine FL.pur rfl rfl (p_eql rfl rfl (decide_eq_true rfl)) ?_
  refine FL.pur rfl rfl (p_pick_t rfl rfl) ?_
  refine mv_ rfl rfl rfl ?_
  refine FL.pur rfl rfl (fld36_1 rfl) ?_
  refine FL.val _ _ rfl rfl (p_load rfl Try.underlying23 rfl a1) ?_
  refine FL.pur rfl rfl (p_indexA rfl rfl Try.underlying23 inf4_eq inf4_size (by decide) (by decide)) ?_
  refine FL.val _ _ rfl rfl (p_load rfl Try.underlying4 rfl x0) ?_
  refine FL.pur rfl rfl (p_pick_t rfl rfl) ?_
  refine mv_ rfl rfl rfl ?_
  refine FL.pur rfl rfl (fld36_1 rfl) ?_
  refine FL.val _ _ rfl rfl (p_load rfl Try.underlying23 rfl a1) ?_
  refine FL.pur rfl rfl (p_indexA rfl rfl Try.underlying23 inf4_eq inf4_size (by decide) (by decide)) ?_
  refine FL.val _ _ rfl rfl (p_load rfl Try.underlying4 rfl x1) ?_
  refine FL.pur rfl rfl (p_pick_t rfl rfl) ?_
  refine mv_ rfl rfl rfl ?_
  refine FL.pur rfl rfl (fld36_2 rfl) ?_
  refine FL.val _ _ rfl rfl (p_load rfl Try.underlying22 rfl a2) ?_
  refine FL.pur rfl rfl (p_len rfl Try.underlying22) ?_
  refine FL.pur rfl rfl (p_eql rfl rfl (decide_eq_true rfl)) ?_
  refine FL.pur rfl rfl (p_pick_t rfl rfl) ?_
  refine mv_ rfl rfl rfl ?_
  refine mv_ rfl rfl rfl ?_
  refine FL.pur rfl rfl (p_eql rfl rfl (decide_eq_true rfl)) ?_
  refine FL.pur rfl rfl (p_pick_t rfl rfl) ?_
  refine mv_ rfl rfl rfl ?_
  refine FL.pur rfl rfl (fld36_0 rfl) ?_
  refine FL.val _ _ rfl rfl (p_load rfl Try.underlying5 rfl e0) ?_
  refine FL.pur rfl rfl (p_eql rfl rfl (decide_eq_true rfl)) ?_
  refine FL.pur rfl rfl (p_pick_t rfl rfl) ?_
  refine mv_ rfl rfl rfl ?_
  refine FL.pur rfl rfl (fld36_1 rfl) ?_
  refine FL.val _ _ rfl rfl (p_load rfl Try.underlying23 rfl e1) ?_
  refine FL.pur rfl rfl (p_len rfl Try.underlying23) ?_
  refine FL.pur rfl rfl (p_eql rfl rfl (decide_eq_true rfl)) ?_
  refine FL.pur rfl rfl (p_pick_t rfl rfl) ?_
  refine mv_ rfl rfl rfl ?_
  refine mv_ rfl rfl rfl ?_
  refine FL.pur rfl rfl (fld36_2 rfl) ?_
  refine FL.val _ _ rfl rfl (p_load rfl Try.underlying22 rfl e2) ?_
  refine FL.call rfl rfl (p_call Try.func17 rfl rfl rfl) (k50) ?_
  rintro e_ w_ ⟨⟨x5, rfl, y5⟩, f10⟩
  refine ⟨_, rfl, ?_⟩
  obtain rfl : x5 = true := y5.2 hps
  refine FL.pur rfl rfl (p_pick_t rfl rfl) ?_
  refine mv_ rfl rfl rfl ?_
  refine mv_ rfl rfl rfl ?_
  refine FL.val _ _ rfl rfl (bld41 rfl rfl) ?_
  refine FL.val _ _ rfl rfl bld41_0 ?_
  refine FL.val _ _ rfl rfl (p_build2 rfl rfl Try.underlying22 inf41_eq inf41_size inf41_zero rfl rfl rfl) ?_
  obtain ⟨l1, l2⟩ := lit_21 w_
  obtain ⟨w8, hw8⟩ : ∃ w8, w8 = w21 w_ := ⟨_, rfl⟩
  rw [← hw8] at l1 l2
  unfold w21 at hw8
  rw [← hw8]
  refine FL.call rfl rfl (p_call Try.func16 rfl rfl rfl) (refutes_calls 2 (B := w8.heap.size) ((h4r.go f10).go l2).p.rws l1 (Nat.le_refl _) (by decide) (by decide) (by decide) (by decide)) ?_
  rintro e_ w_ ⟨⟨x6, rfl, y6⟩, f11⟩
  refine ⟨_, rfl, ?_⟩
  obtain rfl : x6 = true := y6.2 four_ref
  refine FL.pur rfl rfl (p_pick_t rfl rfl) ?_
  refine sg_ rfl rfl rfl ?_
  refine FL.nilK ?_
  refine FC.ret ?_
  repeat with_reducible first | refine thn_ret ?_ | refine blk_ret ?_ | refine nog_ret ?_
  exact ret1 Try.results19 rfl ⟨rfl, fa.go ((f10.go l2).go f11)⟩
end
end Go.Proofs.Ytcahhbcehnbdkaa.Sv

/- The walk of SolveAnswers. -/
namespace Go.Proofs.Ytcahhbcehnbdkaa.Sv
open Go.RowKit Go.Proofs.YtcahhbcehnbdkaaW.PrintWords Go.Proofs.YtcahhbcehnbdkaaW.PrintLast Go.Proofs.Ytcahhbcehnbdkaa.Eng
section
variable {w w' : World} {B b : Nat} {P F : Nat → Prop} {v u mv pv : Value} {cs ps : List (List Int)} {bs : List Bool} {a limit ans err : Int}
theorem OutR.cell {n : Nat} {s : Bool} (h : OutR cs n s w P ans mv pv) : mv.oneCell' = true ∧ pv.oneCell' = true := by
  rcases h with ⟨_, rfl, bs, ⟨A, c, rfl, _⟩, _⟩ | ⟨_, rfl, ps, ⟨⟨A, c, rfl, _⟩, _⟩, _⟩ | ⟨_, _, rfl, rfl⟩ <;> exact ⟨rfl, rfl⟩
theorem SolR.cell (h : SolR a cs limit w P ans mv pv err) : mv.oneCell' = true ∧ pv.oneCell' = true := by
  rcases h with ⟨_, _, rfl, rfl⟩ | ⟨_, _, _, h⟩
  · exact ⟨rfl, rfl⟩
  · exact h.cell
theorem OutR.fr {n : Nat} {s : Bool} (h : OutR cs n s w P ans mv pv) (hf : Fr F w w') (hp : ∀ k, P k → ¬ F k) : OutR cs n s w' P ans mv pv := by
  rcases h with ⟨e1, e2, bs, e3, e4⟩ | ⟨e1, e2, ps, e3, e4⟩ | h
  · exact .inl ⟨e1, e2, bs, e3.fr hf hp, e4⟩
  · exact .inr (.inl ⟨e1, e2, ps, e3.fr hf hp, e4⟩)
  · exact .inr (.inr h)
theorem SolR.fr (h : SolR a cs limit w P ans mv pv err) (hf : Fr F w w') (hp : ∀ k, P k → ¬ F k) : SolR a cs limit w' P ans mv pv err := by
  rcases h with h | ⟨x1, x2, x3, h⟩
  · exact .inl h
  · exact .inr ⟨x1, x2, x3, h.fr hf hp⟩
/-- What is stored is a world of its own: its name and what is known of it. -/
theorem put_name (wa : World) (ans : Int) (mv pv : Value) : ∃ w6 b1, w6 = ((wa.alloc (.cells (Value.agg #[.int .u8 0, .slice none 0 0, .slice none 0 0]).cells 36)).setRow wa.heap.size #[.int .u8 ans, mv, pv]) ∧ b1 = wa.heap.size ∧ w6.heap[b1]? = some (.cells #[.int .u8 ans, mv, pv] 36 (0, 0)) ∧ Fr (fun _ => False) wa w6 :=
  ⟨_, _, rfl, rfl, (put_var wa _).1, (put_var wa _).2⟩
set_option maxHeartbeats 4000000 in
theorem answers_law (a limit : Int) (ha : -9223372036854775808 ≤ a ∧ a < 9223372036854775808) (hB : B ≤ w.heap.size) (h1 : Rws w B v cs) (s1 : Sized cs) (h64 : ∀ c ∈ cs, Small64 c) :
    Calls Try.prog 4 #[.int .i64 a, v, .int .i64 limit] w fun e w' => e = .returned (.bool true) ∧ Fr (fun _ => False) w w' := by
  refine calls_of_FC (N := 79) (vs := [.int .i64 a, v, .int .i64 limit]) Try.func4 rfl Try.ntmps4 (Nat.le_of_ble_eq_true rfl) ?_
  refine FC.seq (FC.region ?_)
  refine sg_ rfl rfl rfl ?_
  refine FL.nilK ?_
  refine FC.seq (FC.region ?_)
  refine FL.call rfl rfl (p_call Try.func19 rfl rfl rfl) (alive_calls w) ?_
  rintro e_ w_ ⟨rfl, f1⟩
  refine ⟨_, rfl, ?_⟩
  refine sg_ rfl rfl rfl ?_
  refine FL.nilK ?_
  obtain ⟨w1, hw1⟩ : ∃ w1, w1 = w_ := ⟨_, rfl⟩
  rw [← hw1] at f1 ⊢
  clear hw1
  have h1 : Rws w1 w1.heap.size v cs := (h1.go f1).p.rws
  have kl := large_calls a h1.p s1.n62 s1.l62
  refine FC.seq ?_
  cases c1 : largeV a cs with
  | true =>
    rw [c1] at kl
    refine FC.seq (FC.region ?_)
    refine mv_ rfl rfl rfl ?_
    refine mv_ rfl rfl rfl ?_
    refine FL.call rfl rfl (p_call Try.func20 rfl rfl rfl) (kl) ?_
    rintro e_ w_ ⟨rfl, rfl⟩
    refine ⟨_, rfl, ?_⟩
    refine mv_ rfl rfl rfl ?_
    refine FL.off rfl rfl ?_
    refine FL.off rfl rfl ?_
    refine FL.pur rfl rfl (p_pick_t rfl rfl) ?_
    refine FL.nilK ?_
    refine FC.cond_t rfl ?_
    refine FC.seq (FC.region ?_)
    refine mv_ rfl rfl rfl ?_
    refine sg_ rfl rfl rfl ?_
    refine FL.nilK ?_
    refine FC.ret ?_
    repeat with_reducible first | refine thn_ret ?_ | refine blk_ret ?_ | refine nog_ret ?_
    exact ret1 Try.results4 rfl ⟨rfl, f1⟩
  | false =>
  rw [c1] at kl
  obtain ⟨a1, a2, n1, l1⟩ := large_no c1
  obtain ⟨_, l1⟩ := many_no l1
  have q1 : ∀ c ∈ cs, c.length < 1099511627776 := fun c hc => by have := l1 c hc; omega
  refine FC.seq (FC.region ?_)
  refine mv_ rfl rfl rfl ?_
  refine mv_ rfl rfl rfl ?_
  refine FL.call rfl rfl (p_call Try.func20 rfl rfl rfl) (kl) ?_
  rintro e_ w_ ⟨rfl, rfl⟩
  refine ⟨_, rfl, ?_⟩
  refine mv_ rfl rfl rfl ?_
  refine mv_ rfl rfl rfl ?_
  refine FL.pur rfl rfl (p_not rfl) ?_
  refine FL.pur rfl rfl (p_pick_f rfl rfl) ?_
  refine FL.nilK ?_
  refine FC.cond_f rfl (FC.skip (thn_normal ?_))
  refine FC.seq (FC.region ?_)
  refine mv_ rfl rfl rfl ?_
  refine FL.call rfl rfl (p_call Try.func11 rfl rfl rfl) (twin_calls h1.p (fun k hk => hk) (by omega) q1) ?_
  rintro e_ w_ ⟨t1, rfl, m1, f2⟩
  refine ⟨_, rfl, ?_⟩
  refine sg_ rfl rfl rfl ?_
  refine FL.nilK ?_
  have m1 := m1.rws.rws
  refine FC.seq (FC.region ?_)
  refine mv_ rfl rfl rfl ?_
  refine mv_ rfl rfl rfl ?_
  refine mv_ rfl rfl rfl ?_
  refine FL.call rfl rfl (p_call Try.func21 rfl rfl rfl) (solve_calls a limit m1 (Nat.le_refl _) (by omega) q1) ?_
  rintro e_ w_ ⟨ans, mv, pv, err, rfl, hso, f3⟩
  refine ⟨_, rfl, ?_⟩
  refine mv_ rfl rfl rfl ?_
  refine FL.pur rfl rfl (p_extract rfl rfl) ?_
  refine FL.pur rfl rfl (p_extract rfl rfl) ?_
  refine FL.val _ _ rfl rfl (p_allocA inf36_eq inf36_zero) ?_
  refine FL.sto _ rfl (p_storeA rfl rfl (heap_alloc_new _ _) inf36_size rfl (all3' rfl hso.cell.1 hso.cell.2)) ?_
  refine sg_ rfl rfl rfl ?_
  refine FL.nilK ?_
  obtain ⟨w6, b1, hw6, hb1, z1, f4⟩ := put_name w_ ans mv pv
  rw [← hw6, ← hb1]
  clear hw6 hb1
  have hso := hso.fr f4 fun _ _ h => h
  have f3 := f3.go f4
  have m1 : Rws w6 w6.heap.size t1 cs := (m1.go f3).p.rws
  have f2 := f2.go f3
  have h1 : Rws w6 w6.heap.size v cs := (h1.go f2).p.rws
  have f1 := f1.go f2
  clear f2 f3 f4
  refine FC.seq ?_
  refine FC.seq (FC.region ?_)
  refine mv_ rfl rfl rfl ?_
  refine mv_ rfl rfl rfl ?_
  refine FL.call rfl rfl (p_call Try.func18 rfl rfl rfl) (same_calls m1 h1 (by omega) s1.l62) ?_
  rintro e_ w_ ⟨rfl, f5⟩
  refine ⟨_, rfl, ?_⟩
  refine FL.pur rfl rfl (p_not rfl) ?_
  refine FL.nilK ?_
  refine FC.cond_f rfl (FC.skip (thn_normal ?_))
  obtain ⟨w7, hw7⟩ : ∃ w7, w7 = w_ := ⟨_, rfl⟩
  rw [← hw7] at f5 ⊢
  clear hw7
  have h1 : Rws w7 w7.heap.size v cs := (h1.go f5).p.rws
  have hso := hso.fr f5 fun _ _ h => h
  have z1 := (f5.block b1 (Array.getElem?_eq_some_iff.1 z1).1 fun h => h).trans z1
  have f1 := f1.go f5
  clear f5 m1
  have c0 : w7.cell? ⟨b1, 0, none⟩ = some (.int .u8 ans) := cell_row z1 rfl
  have c1 : w7.cell? ⟨b1, 1, none⟩ = some mv := cell_row z1 rfl
  have c2 : w7.cell? ⟨b1, 2, none⟩ = some pv := cell_row z1 rfl
  have kc := check_calls a h1 (by omega) s1.l62
  refine FC.seq (FC.region ?_)
  refine mv_ rfl rfl rfl ?_
  refine mv_ rfl rfl rfl ?_
  refine FL.call rfl rfl (p_call Try.func12 rfl rfl rfl) (kc) ?_
  rintro e_ w_ ⟨rfl, rfl⟩
  refine ⟨_, rfl, ?_⟩
  refine sg_ rfl rfl rfl ?_
  refine FL.nilK ?_
  refine FC.seq ?_
  rcases hso with ⟨⟨he, rfl⟩ | ⟨he, hlt, rfl⟩, rfl, rfl, rfl⟩ | ⟨he, hlt, rfl, ho⟩
  · refine FC.seq (FC.region ?_)
    refine mv_ rfl rfl rfl ?_
    refine FL.pur rfl rfl (p_eql rfl rfl (decide_eq_false he)) ?_
    refine mv_ rfl rfl rfl ?_
    refine FL.off rfl rfl ?_
    refine FL.off rfl rfl ?_
    refine FL.pur rfl rfl (p_pick_f rfl rfl) ?_
    refine FL.nilK ?_
    refine FC.cond_f rfl (FC.skip (thn_normal ?_))
    refine FC.seq ?_
    refine FC.seq (FC.region ?_)
    refine mv_ rfl rfl rfl ?_
    refine FL.pur rfl rfl (p_neq rfl rfl (show _ = !true by simp [he])) ?_
    refine mv_ rfl rfl rfl ?_
    refine FL.off rfl rfl ?_
    refine FL.off rfl rfl ?_
    refine FL.pur rfl rfl (p_pick_t rfl rfl) ?_
    refine FL.nilK ?_
    refine FC.cond_t rfl ?_
    refine FC.seq (FC.region ?_)
    refine mv_ rfl rfl rfl ?_
    refine mv_ rfl rfl rfl ?_
    refine mv_ rfl rfl rfl ?_
    refine mv_ rfl rfl rfl ?_
    refine FL.pur rfl rfl (p_eql rfl rfl (decide_eq_true rfl)) ?_
    refine FL.pur rfl rfl (p_pick_t rfl rfl) ?_
    refine mv_ rfl rfl rfl ?_
    refine FL.pur rfl rfl (fld36_0 rfl) ?_
    refine FL.val _ _ rfl rfl (p_load rfl Try.underlying5 rfl c0) ?_
    refine FL.pur rfl rfl (p_eql rfl rfl (decide_eq_true rfl)) ?_
    refine FL.pur rfl rfl (p_pick_t rfl rfl) ?_
    refine mv_ rfl rfl rfl ?_
    refine FL.pur rfl rfl (fld36_1 rfl) ?_
    refine FL.val _ _ rfl rfl (p_load rfl Try.underlying23 rfl c1) ?_
    refine FL.pur rfl rfl (p_len rfl Try.underlying23) ?_
    refine FL.pur rfl rfl (p_eql rfl rfl (decide_eq_true rfl)) ?_
    refine FL.pur rfl rfl (p_pick_t rfl rfl) ?_
    refine mv_ rfl rfl rfl ?_
    refine FL.pur rfl rfl (fld36_2 rfl) ?_
    refine FL.val _ _ rfl rfl (p_load rfl Try.underlying22 rfl c2) ?_
    refine FL.pur rfl rfl (p_len rfl Try.underlying22) ?_
    refine FL.pur rfl rfl (p_eql rfl rfl (decide_eq_true rfl)) ?_
    refine FL.pur rfl rfl (p_pick_t rfl rfl) ?_
    refine sg_ rfl rfl rfl ?_
    refine FL.nilK ?_
    refine FC.ret ?_
    repeat with_reducible first | refine thn_ret ?_ | refine blk_ret ?_ | refine nog_ret ?_
    exact ret1 Try.results4 rfl ⟨rfl, f1⟩
  · rw [he]
    refine FC.seq (FC.region ?_)
    refine mv_ rfl rfl rfl ?_
    refine FL.pur rfl rfl (p_eql rfl rfl (decide_eq_true rfl)) ?_
    refine mv_ rfl rfl rfl ?_
    refine mv_ rfl rfl rfl ?_
    refine FL.pur rfl rfl (p_lss rfl rfl (decide_eq_true hlt)) ?_
    refine FL.pur rfl rfl (p_pick_t rfl rfl) ?_
    refine FL.nilK ?_
    refine FC.cond_t rfl ?_
    refine FC.region ?_
    refine sg_ rfl rfl rfl ?_
    refine FL.nil ?_
    refine thn_normal ?_
    refine FC.seq ?_
    refine FC.seq (FC.region ?_)
    refine mv_ rfl rfl rfl ?_
    refine FL.pur rfl rfl (p_neq rfl rfl (show _ = !true by decide)) ?_
    refine mv_ rfl rfl rfl ?_
    refine FL.off rfl rfl ?_
    refine FL.off rfl rfl ?_
    refine FL.pur rfl rfl (p_pick_t rfl rfl) ?_
    refine FL.nilK ?_
    refine FC.cond_t rfl ?_
    refine FC.seq (FC.region ?_)
    refine mv_ rfl rfl rfl ?_
    refine mv_ rfl rfl rfl ?_
    refine mv_ rfl rfl rfl ?_
    refine mv_ rfl rfl rfl ?_
    refine FL.pur rfl rfl (p_eql rfl rfl (decide_eq_true rfl)) ?_
    refine FL.pur rfl rfl (p_pick_t rfl rfl) ?_
    refine mv_ rfl rfl rfl ?_
    refine FL.pur rfl rfl (fld36_0 rfl) ?_
    refine FL.val _ _ rfl rfl (p_load rfl Try.underlying5 rfl c0) ?_
    refine FL.pur rfl rfl (p_eql rfl rfl (decide_eq_true rfl)) ?_
    refine FL.pur rfl rfl (p_pick_t rfl rfl) ?_
    refine mv_ rfl rfl rfl ?_
    refine FL.pur rfl rfl (fld36_1 rfl) ?_
    refine FL.val _ _ rfl rfl (p_load rfl Try.underlying23 rfl c1) ?_
    refine FL.pur rfl rfl (p_len rfl Try.underlying23) ?_
    refine FL.pur rfl rfl (p_eql rfl rfl (decide_eq_true rfl)) ?_
    refine FL.pur rfl rfl (p_pick_t rfl rfl) ?_
    refine mv_ rfl rfl rfl ?_
    refine FL.pur rfl rfl (fld36_2 rfl) ?_
    refine FL.val _ _ rfl rfl (p_load rfl Try.underlying22 rfl c2) ?_
    refine FL.pur rfl rfl (p_len rfl Try.underlying22) ?_
    refine FL.pur rfl rfl (p_eql rfl rfl (decide_eq_true rfl)) ?_
    refine FL.pur rfl rfl (p_pick_t rfl rfl) ?_
    refine sg_ rfl rfl rfl ?_
    refine FL.nilK ?_
    refine FC.ret ?_
    repeat with_reducible first | refine thn_ret ?_ | refine blk_ret ?_ | refine nog_ret ?_
    exact ret1 Try.results4 rfl ⟨rfl, f1⟩
  · rw [he]
    refine FC.seq (FC.region ?_)
    refine mv_ rfl rfl rfl ?_
    refine FL.pur rfl rfl (p_eql rfl rfl (decide_eq_true rfl)) ?_
    refine mv_ rfl rfl rfl ?_
    refine mv_ rfl rfl rfl ?_
    refine FL.pur rfl rfl (p_lss rfl rfl (decide_eq_false (by omega))) ?_
    refine FL.pur rfl rfl (p_pick_t rfl rfl) ?_
    refine FL.nilK ?_
    refine FC.cond_f rfl (FC.skip (thn_normal ?_))
    refine FC.seq ?_
    refine FC.seq (FC.region ?_)
    refine mv_ rfl rfl rfl ?_
    refine FL.pur rfl rfl (p_neq rfl rfl (show _ = !false by decide)) ?_
    refine mv_ rfl rfl rfl ?_
    refine mv_ rfl rfl rfl ?_
    refine FL.pur rfl rfl (p_neq rfl rfl (show _ = !false by decide)) ?_
    refine FL.pur rfl rfl (p_pick_f rfl rfl) ?_
    refine FL.nilK ?_
    refine FC.cond_f rfl (FC.skip (thn_normal ?_))
    have kr := right_calls a (by omega) h1 (Nat.le_refl _) (by omega) (fun c hc => ⟨q1 c hc, h64 c hc⟩) ho
    refine FC.seq (FC.region ?_)
    refine mv_ rfl rfl rfl ?_
    refine mv_ rfl rfl rfl ?_
    refine mv_ rfl rfl rfl ?_
    refine mv_ rfl rfl rfl ?_
    refine FL.val _ _ rfl rfl (p_loadA rfl Try.underlying36 rfl z1 inf36_size) ?_
    refine FL.call rfl rfl (p_call Try.func22 rfl rfl rfl) (kr) ?_
    rintro e_ w_ ⟨rfl, f6⟩
    refine ⟨_, rfl, ?_⟩
    refine FL.pur rfl rfl (p_pick_t rfl rfl) ?_
    refine sg_ rfl rfl rfl ?_
    refine FL.nilK ?_
    refine FC.ret ?_
    repeat with_reducible first | refine thn_ret ?_ | refine blk_ret ?_ | refine nog_ret ?_
    exact ret1 Try.results4 rfl ⟨rfl, f1.go f6⟩
theorem answers_row (W : World) (a0 : Int) (w0 : -9223372036854775808 ≤ a0 ∧ a0 < 9223372036854775808) {v1 : Value} {l1 : List (List Int)} (k1 : Rws W W.heap.size v1 l1) (z1 : Sized l1) (b1 : ∀ c ∈ l1, Small64 c) (a2 : Int) (w2 : -9223372036854775808 ≤ a2 ∧ a2 < 9223372036854775808) :
    Calls Try.prog 4 #[.int .i64 a0, v1, .int .i64 a2] W fun e w' => e = .returned (.bool true) ∧ Below W.heap.size W w' := (answers_law a0 a2 w0 (Nat.le_refl _) k1 z1 b1).mono fun _ _ ⟨h1, h2⟩ => ⟨h1, h2.below' fun _ h => h.elim⟩
end
end Go.Proofs.Ytcahhbcehnbdkaa.Sv

/- Lemmas that several laws use: clauses that pass the check, rows that grow. -/
namespace Go.Proofs.Ytcahhbcehnbdkaa.Sv
open Go.RowKit Go.Proofs.YtcahhbcehnbdkaaW.PrintWords Go.Proofs.YtcahhbcehnbdkaaW.PrintLast Go.Proofs.Ytcahhbcehnbdkaa.Eng
section
variable {a : Int}
theorem checkV_zero {L : List (List Int)} (h0 : 0 ≤ a) (h1 : a ≤ 5000) (h2 : L.length ≤ 20000) (h3 : ∀ c ∈ L, c.length ≤ 5000) (h4 : ∀ c ∈ L, ∀ l ∈ c, l ≠ 0 ∧ -a ≤ l ∧ l ≤ a) : checkV a L = 0 := by
  unfold checkV
  rw [if_neg, if_neg]
  · rintro (h | h)
    · omega
    · rw [Bool.eq_false_iff] at h
      refine h (List.all_eq_true.2 fun c hc => List.all_eq_true.2 fun l hl => ?_)
      have := h4 c hc l hl
      simp only [knownB, Bool.not_eq_true', Bool.or_eq_false_iff, decide_eq_false_iff_not]
      omega
  · rintro (h | h | h)
    · omega
    · omega
    · obtain ⟨c, hc, h5⟩ := List.any_eq_true.1 h
      have := h3 c hc
      have := of_decide_eq_true h5
      omega
theorem checkV_short {L : List (List Int)} (h : checkV a L = 0) : ∀ c ∈ L, c.length ≤ 5000 := fun c hc => by
  unfold checkV at h
  split at h
  · cases h
  · rename_i h1
    apply Classical.byContradiction
    intro h2
    exact h1 (.inr (.inr (List.any_eq_true.2 ⟨c, hc, decide_eq_true (by omega)⟩)))
end
section
variable {ρ : Env} {dst : Option Tmp} {tp : TypeId} {pos : String} {af : Array Edge} {gd : Option (Nat × Bool)} {x y : Operand}
variable {w w' : World} {B B0 : Nat} {Pr Qr : Nat → Prop} {v : Value} {cs : List (List Int)} {c : List Int}
theorem AllRow.mono (h : AllRow w B0 Pr v cs) (hp : ∀ k, Pr k → k < w.heap.size → Qr k) : AllRow w B0 Qr v cs := by
  obtain ⟨us, h1, h2⟩ := h.out
  refine ⟨us, h1, fun i hi => ?_⟩
  obtain ⟨u, e1, e2⟩ := h2 i hi
  exact ⟨u, e1, e2.mono fun k hk hl => ⟨hp k hk.1 hl, hk.2⟩⟩
theorem AllRow.lt (h : AllRow w B0 Pr v cs) {k : Nat} (hk : v.ownBlock = some k) : B0 ≤ k ∧ k < w.heap.size := h.out.choose_spec.1.lt k hk
theorem own_appI (h : w.ownsRow B 3 1 v c.length (nums .i64 c)) (hlen : c.length < 1099511627776) (l : Int) (hB : B ≤ w.heap.size) (hx : ev ρ x = some v) (hy : ev ρ y = some (.slice (some ⟨w.heap.size, 0, none⟩) 1 1)) :
    ∃ v1 w1, Val Try.prog ρ ⟨dst, .call { callee := .builtin .append, args := #[x, y], argTypes := #[41, 41] }, tp, pos, af, gd⟩ (w.alloc (.cells #[.int .i64 l] 3)) v1 w1 ∧ w1.ownsRow B 3 1 v1 (c ++ [l]).length (nums .i64 (c ++ [l])) ∧ Fr (fun k => v.ownBlock = some k) w w1 ∧ (v1.ownBlock = v.ownBlock ∨ ∃ b, v1.ownBlock = some b ∧ w.heap.size ≤ b) := by
  obtain ⟨v1, w1, h1, h2, h3, h4⟩ := app41 (ρ := ρ) (dst := dst) (ty := tp) (pos := pos) (af := af) (g := gd) hx hy (h.alloc (.cells #[.int .i64 l] 3)) (news := [.int .i64 l]) rfl (news1 w _ _) (by simp [Value.oneCell']) (by omega) (by simp; omega)
  refine ⟨v1, w1, h1, by simpa [nums] using h2, ((Fr.refl _ w).alloc _).grown h3 (fun k hk => .inl hk), ?_⟩
  rcases h4 with h | ⟨b, h, hb⟩
  · exact .inl h
  · exact .inr ⟨b, h, by simp at hb; omega⟩
end
end Go.Proofs.Ytcahhbcehnbdkaa.Sv

/- The walk of SolveMore. -/
namespace Go.Proofs.Ytcahhbcehnbdkaa.Sv
open Go.RowKit Go.Proofs.YtcahhbcehnbdkaaW.PrintWords Go.Proofs.YtcahhbcehnbdkaaW.PrintLast Go.Proofs.Ytcahhbcehnbdkaa.Eng
/-- A literal whose atom is turned round. -/
def turnL (ts : List Bool) (l : Int) : Int := if max l (-l) - 1 < ts.length ∧ ts.getD (max l (-l) - 1).toNat false = true then -l else l
def turnC (ts : List Bool) (c : List Int) : List Int := c.reverse.map (turnL ts)
def flipB (ts bs : List Bool) : List Bool := (List.range bs.length).map fun i => xor (bs.getD i false) (ts.getD i false)
def otherL (ts : List Bool) (cs : List (List Int)) : List (List Int) := cs.reverse.map (turnC ts)
section
variable {ts bs : List Bool} {cs ps : List (List Int)} {c : List Int} {l a : Int}
theorem flip_length : (flipB ts bs).length = bs.length := by simp [flipB]
theorem flip_get {i : Nat} (hi : i < bs.length) : (flipB ts bs).getD i false = xor (bs.getD i false) (ts.getD i false) := by
  simp [flipB, List.getD_eq_getElem?_getD, List.getElem?_map, List.getElem?_range hi]
theorem turn_abs (ts : List Bool) (l : Int) : turnL ts l = l ∨ turnL ts l = -l := by unfold turnL; split <;> simp
theorem isB_turn : isB (flipB ts bs) (turnL ts l) = isB bs l := by
  have hlen := flip_length (ts := ts) (bs := bs)
  have key : ∀ k : Int, (turnL ts k = if ts.getD (max k (-k) - 1).toNat false = true then -k else k) ∨ k = 0 := fun k => by
    by_cases h0 : k = 0
    · exact .inr h0
    · left
      unfold turnL
      by_cases h1 : max k (-k) - 1 < ts.length
      · by_cases h2 : ts.getD (max k (-k) - 1).toNat false = true
        · rw [if_pos h2, if_pos ⟨h1, h2⟩]
        · rw [if_neg h2, if_neg fun h => h2 h.2]
      · have : ts.getD (max k (-k) - 1).toNat false = false := by
          rw [List.getD_eq_getElem?_getD, List.getElem?_eq_none (by omega)]; rfl
        rw [if_neg fun h => h1 h.1, if_neg (by rw [this]; decide)]
  rcases key l with h | h
  · rw [h]
    by_cases c1 : 0 < l ∧ l ≤ bs.length
    · have e : (max l (-l) - 1).toNat = (l - 1).toNat := by omega
      have hg := flip_get (ts := ts) (bs := bs) (i := (l - 1).toNat) (by omega)
      rw [e]
      split
      · rename_i ht
        unfold isB
        rw [hlen, if_neg (by omega), if_pos (by omega), if_pos c1, show (- -l - 1).toNat = (l - 1).toNat by omega, hg, ht]
        simp
      · rename_i ht
        have ht : ts.getD (l - 1).toNat false = false := by simpa using ht
        unfold isB
        rw [hlen, if_pos c1, if_pos c1, hg, ht]
        simp
    · by_cases c2 : l < 0 ∧ -(bs.length : Int) ≤ l
      · have e : (max l (-l) - 1).toNat = (-l - 1).toNat := by omega
        have hg := flip_get (ts := ts) (bs := bs) (i := (-l - 1).toNat) (by omega)
        rw [e]
        split
        · rename_i ht
          unfold isB
          rw [hlen, if_pos (by omega), if_neg c1, if_pos c2, hg, ht]
          simp
        · rename_i ht
          have ht : ts.getD (-l - 1).toNat false = false := by simpa using ht
          unfold isB
          rw [hlen, if_neg c1, if_pos c2, if_neg c1, if_pos c2, hg, ht]
          simp
      · have e1 : isB bs l = false := by unfold isB; rw [if_neg c1, if_neg c2]
        rw [e1]
        split
        · unfold isB; rw [hlen, if_neg (by omega), if_neg (by omega)]
        · unfold isB; rw [hlen, if_neg c1, if_neg c2]
  · subst h
    have : turnL ts 0 = 0 := by rcases turn_abs ts 0 with h | h <;> simpa using h
    rw [this]
    unfold isB
    simp
theorem flip_flip : flipB ts (flipB ts bs) = bs := by
  apply List.ext_getElem (by rw [flip_length, flip_length])
  intro i h1 h2
  have h3 := flip_get (ts := ts) (bs := flipB ts bs) (i := i) (by rw [flip_length]; exact h2)
  rw [flip_get h2] at h3
  simp only [List.getD_eq_getElem?_getD, List.getElem?_eq_getElem h1, List.getElem?_eq_getElem h2, Option.getD_some] at h3
  rw [h3]
  cases bs[i] <;> cases (ts[i]?.getD false) <;> rfl
theorem other_sat (h : Sat cs bs) : Sat (otherL ts cs) (flipB ts bs) := sat_of fun c hc => by
  obtain ⟨d, hd, rfl⟩ := List.mem_map.1 hc
  obtain ⟨l, l1, l2⟩ := h.at (List.mem_reverse.1 hd)
  exact ⟨turnL ts l, List.mem_map.2 ⟨l, List.mem_reverse.2 l1, rfl⟩, by rw [isB_turn]; exact l2⟩
theorem sat_other (h : Sat (otherL ts cs) bs) : Sat cs (flipB ts bs) := sat_of fun c hc => by
  obtain ⟨l, l1, l2⟩ := h.at (c := turnC ts c) (List.mem_map.2 ⟨c, List.mem_reverse.2 hc, rfl⟩)
  obtain ⟨k, k1, rfl⟩ := List.mem_map.1 l1
  refine ⟨k, List.mem_reverse.1 k1, ?_⟩
  rw [← isB_turn (ts := ts), flip_flip]
  exact l2
theorem other_check (h : checkV a cs = 0) : checkV a (otherL ts cs) = 0 := by
  obtain ⟨b1, b2, b3, b4⟩ := checkV_bad h
  refine checkV_zero b1 b2 (by simp [otherL]; omega) (fun c hc => ?_) fun c hc => ?_
  · obtain ⟨d, hd, rfl⟩ := List.mem_map.1 hc
    have := checkV_short h d (List.mem_reverse.1 hd)
    simp [turnC]; omega
  · obtain ⟨d, hd, rfl⟩ := List.mem_map.1 hc
    intro l hl
    obtain ⟨k, k1, rfl⟩ := List.mem_map.1 hl
    have := b4 d (List.mem_reverse.1 hd) k (List.mem_reverse.1 k1)
    rcases turn_abs ts k with h | h <;> omega
theorem check_left (h : checkV a (cs ++ ps) = 0) : checkV a cs = 0 := by
  obtain ⟨b1, b2, b3, b4⟩ := checkV_bad h
  exact checkV_zero b1 b2 (by rw [List.length_append] at b3; omega) (fun c hc => checkV_short h c (List.mem_append_left _ hc)) fun c hc => b4 c (List.mem_append_left _ hc)
theorem turnC_take (i : Nat) (hi : i < c.length) : (turnC ts c).take (i + 1) = (turnC ts c).take i ++ [turnL ts (g c (c.length - 1 - i))] := by
  rw [List.take_add_one]
  congr 1
  unfold turnC
  rw [List.getElem?_map, List.getElem?_reverse hi, g, List.getD_eq_getElem?_getD, List.getElem?_eq_getElem (by omega)]
  rfl
theorem otherL_take (i : Nat) (hi : i < cs.length) : (otherL ts cs).take (i + 1) = (otherL ts cs).take i ++ [turnC ts (cs.getD (cs.length - 1 - i) [])] := by
  rw [List.take_add_one]
  congr 1
  unfold otherL
  rw [List.getElem?_map, List.getElem?_reverse hi, List.getD_eq_getElem?_getD, List.getElem?_eq_getElem (by omega)]
  rfl
theorem turnC_length : (turnC ts c).length = c.length := by simp [turnC]
theorem otherL_length : (otherL ts cs).length = cs.length := by simp [otherL]
end
end Go.Proofs.Ytcahhbcehnbdkaa.Sv

/- The walk of SolveMore. -/
namespace Go.Proofs.Ytcahhbcehnbdkaa.Sv
open Go.RowKit Go.Proofs.YtcahhbcehnbdkaaW.PrintWords Go.Proofs.YtcahhbcehnbdkaaW.PrintLast Go.Proofs.Ytcahhbcehnbdkaa.Eng
section
variable {w w' : World} {B B0 b : Nat} {P P2 F : Nat → Prop} {v u mv pv : Value} {cs ds ps : List (List Int)} {bs ts : List Bool} {a limit ans err : Int}
variable {ρ : Env} {dst : Option Tmp} {tp : TypeId} {pos : String} {af : Array Edge} {gd : Option (Nat × Bool)} {x y : Operand}
/-- Rows put behind rows. -/
theorem AllRow.cat (h : AllRow w B0 P v cs) (h2 : RwsP w P2 u ds) (hP : ∀ k, P2 k → P k ∧ ¬ v.ownBlock = some k) (hB : B0 ≤ w.heap.size) (hlen : cs.length + ds.length ≤ 1099511627776) (hx : ev ρ x = some v) (hy : ev ρ y = some u) :
    ∃ v1 w1, Val Try.prog ρ ⟨dst, .call { callee := .builtin .append, args := #[x, y], argTypes := #[22, 22] }, tp, pos, af, gd⟩ w v1 w1 ∧ AllRow w1 B0 P v1 (cs ++ ds) ∧ Fr (fun k => v.ownBlock = some k) w w1 := by
  by_cases hn : ds.length = 0
  · obtain ⟨A, cap, rfl, _⟩ := h2
    rw [hn] at hy
    have e : ds = [] := List.length_eq_zero_iff.1 hn
    subst e
    obtain ⟨A', c', rfl, hc'⟩ := h.room
    exact ⟨_, _, appNil22 hx hy hc', by rw [List.append_nil]; exact h, Fr.refl _ _⟩
  obtain ⟨us, h1, hr⟩ := h.out
  have hul : us.length = cs.length := by have := h1.1; omega
  obtain ⟨A, cap, rfl, h3⟩ := h2
  obtain ⟨ad, _, rfl, _⟩ := h3 0 (by omega)
  have hex : ∀ i, i < ds.length → ∃ z, w.cell? (ad.add i) = some z ∧ RowP w P2 z (ds.getD i []) := fun i hi => by
    obtain ⟨ad', z, e1, _, e3, e4⟩ := h3 i hi
    injection e1 with e1
    subst e1
    exact ⟨z, e3, e4⟩
  have hnews : ∀ j y, ((List.range ds.length).map fun i => (w.cell? (ad.add i)).getD undef)[j]? = some y → w.cell? (ad.add j) = some y := fun j y hj => by
    have hjl : j < ds.length := by have := (List.getElem?_eq_some_iff.1 hj).1; simpa using this
    obtain ⟨z, e1, _⟩ := hex j hjl
    rw [List.getElem?_map, List.getElem?_range hjl] at hj
    simp only [Option.map_some, Option.some.injEq, e1, Option.getD_some] at hj
    rw [← hj]
    exact e1
  obtain ⟨v1, w1, a1, a2, a3, a4⟩ := app22 (ρ := ρ) (dst := dst) (ty := tp) (pos := pos) (af := af) (g := gd) hx hy h1 (news := (List.range ds.length).map fun i => (w.cell? (ad.add i)).getD undef) (by simp) hnews (fun z hz => by
    obtain ⟨i, hi, rfl⟩ := List.mem_map.1 hz
    obtain ⟨z, e1, A, cap, rfl, _⟩ := hex i (List.mem_range.1 hi)
    rw [e1]; rfl) hlen hB
  have f1 : Fr (fun k => v.ownBlock = some k) w w1 := (Fr.refl _ w).grown a3 fun k hk => .inl hk
  have hne : ∀ k, k < w.heap.size → ¬ v.ownBlock = some k → ¬ v1.ownBlock = some k := fun k hk hv e => by
    rcases a4 with h | ⟨b, h, hb⟩
    · exact hv (h.symm.trans e)
    · rw [h] at e; injection e with e; omega
  have mv : ∀ {u c}, RowP w (fun k => P k ∧ ¬ v.ownBlock = some k) u c → RowP w1 (fun k => P k ∧ ¬ v1.ownBlock = some k) u c := fun hr =>
    (hr.mono (Q := fun k => (P k ∧ ¬ v1.ownBlock = some k) ∧ ¬ v.ownBlock = some k) fun k hk hl => ⟨⟨hk.1, hne k hl hk.2⟩, hk.2⟩).fr f1 (fun k hk => hk.2) |>.mono fun k hk _ => hk.1
  refine ⟨v1, w1, a1, ⟨_, by rw [List.length_append]; exact a2, fun i hi => ?_⟩, f1⟩
  rw [List.length_append] at hi
  by_cases e : i < cs.length
  · obtain ⟨z, e1, e2⟩ := hr i e
    refine ⟨z, by rw [List.getElem?_append_left (by omega)]; exact e1, ?_⟩
    rw [List.getD_eq_getElem?_getD, List.getElem?_append_left e, ← List.getD_eq_getElem?_getD]
    exact mv e2
  · obtain ⟨z, e1, e2⟩ := hex (i - cs.length) (by omega)
    refine ⟨z, ?_, ?_⟩
    · rw [List.getElem?_append_right (by omega), hul, List.getElem?_map, List.getElem?_range (by omega)]
      simp [e1]
    · rw [List.getD_eq_getElem?_getD, List.getElem?_append_right (by omega), ← List.getD_eq_getElem?_getD]
      exact mv (e2.mono fun k hk _ => hP k hk)
theorem sol_ok' (h : SolR a cs limit w P ans mv pv err) (hc : checkV a cs = 0) (hl : 0 ≤ limit) : err = 0 ∧ ((ans = 1 ∧ ∃ bs : List Bool, (bs.length : Int) = a ∧ Sat cs bs) ∨ (ans = 2 ∧ ∀ bs : List Bool, (bs.length : Int) = a → ¬ Sat cs bs) ∨ ans = 3) := by
  have ha := (checkV_bad hc).1
  rcases h with ⟨h | h, _⟩ | ⟨_, _, e3, ⟨e4, _, bs, _, e7, e8⟩ | ⟨e4, _, ps, _, e7, _⟩ | ⟨e4, _⟩⟩
  · exact absurd hc h.1
  · omega
  · exact ⟨e3, .inl ⟨e4, bs, by omega, e8⟩⟩
  · rw [show (((a + 1).toNat : Nat) : Int) - 1 = a by omega] at e7
    exact ⟨e3, .inr (.inl ⟨e4, fun bs hb hs => e7.none hb hs⟩)⟩
  · exact ⟨e3, .inr (.inr e4)⟩
set_option maxHeartbeats 4000000 in
theorem more_law {A3 : Option Addr} {cp3 : Nat} (a : Int) (ha : -9223372036854775808 ≤ a ∧ a < 9223372036854775808) (h1 : Rws w B v cs) (h2 : Rws w B u ds) (h3 : BRow w B (.slice A3 ts.length cp3) ts) (n1 : cs.length ≤ 1048576) (l1 : ∀ c ∈ cs, c.length ≤ 1048576) (n2 : ds.length ≤ 1048576) (l2 : ∀ c ∈ ds, c.length ≤ 1048576) (n3 : ts.length ≤ 140737488351232) :
    Calls Try.prog 5 #[.int .i64 a, v, u, .slice A3 ts.length cp3] w fun e w' => e = .returned (.bool true) ∧ Fr (fun _ => False) w w' := by
  refine calls_of_FC (N := 156) (vs := [.int .i64 a, v, u, .slice A3 ts.length cp3]) Try.func5 rfl Try.ntmps5 (Nat.le_of_ble_eq_true rfl) ?_
  refine FC.seq (FC.region ?_)
  refine sg_ rfl rfl rfl ?_
  refine FL.nilK ?_
  refine FC.seq (FC.region ?_)
  refine FL.call rfl rfl (p_call Try.func19 rfl rfl rfl) (alive_calls w) ?_
  rintro e_ w_ ⟨rfl, f1⟩
  refine ⟨_, rfl, ?_⟩
  refine sg_ rfl rfl rfl ?_
  refine FL.nilK ?_
  obtain ⟨w1, hw1⟩ : ∃ w1, w1 = w_ := ⟨_, rfl⟩
  rw [← hw1] at f1 ⊢
  clear hw1
  have h1 : Rws w1 w1.heap.size v cs := (h1.go f1).p.rws
  have h2 : Rws w1 w1.heap.size u ds := (h2.go f1).p.rws
  have h3 : ∀ i, i < ts.length → ∃ ad, A3 = some ad ∧ w1.cell? (ad.add i) = some (.bool (ts.getD i false)) := fun i hi => by
    obtain ⟨A, c, e, h⟩ := h3
    injection e with e1 e2 e3
    subst e1
    obtain ⟨ad, e4, _, e5⟩ := h i hi
    exact ⟨ad, e4, f1.cell e5 fun h => h⟩
  have q1 : ∀ c ∈ cs, c.length < 1099511627776 := fun c hc => by have := l1 c hc; omega
  have q2 : ∀ c ∈ ds, c.length < 1099511627776 := fun c hc => by have := l2 c hc; omega
  refine FC.seq (FC.region ?_)
  refine mv_ rfl rfl rfl ?_
  refine FL.call rfl rfl (p_call Try.func11 rfl rfl rfl) (twin_calls h1.p (fun k hk => hk) (by omega) q1) ?_
  rintro e_ w_ ⟨t26, rfl, m1, f2⟩
  refine ⟨_, rfl, ?_⟩
  refine mv_ rfl rfl rfl ?_
  obtain ⟨wa, hwa⟩ : ∃ wa, wa = w_ := ⟨_, rfl⟩
  rw [← hwa] at m1 f2
  rw [← hwa]
  clear hwa
  have m1o : ∀ k, t26.ownBlock = some k → k < wa.heap.size := fun k hk => (m1.lt hk).2
  refine FL.call rfl rfl (p_call Try.func11 rfl rfl rfl) (twin_calls ((h2.go f2).p.rws).p (fun k hk => hk) (by omega) q2) ?_
  rintro e_ w_ ⟨t28, rfl, m2, f3⟩
  refine ⟨_, rfl, ?_⟩
  have m1 := m1.fr f3 (fun _ _ h => h) (fun _ _ h => h)
  have hP2 : ∀ k, (wa.heap.size ≤ k ∨ t28.ownBlock = some k) → w1.heap.size ≤ k ∧ ¬ t26.ownBlock = some k := fun k hk => by { have h5 : wa.heap.size ≤ k := hk.elim id fun h => (m2.lt h).1; have h6 := f2.size; exact ⟨by omega, fun e => by { have := m1o k e; omega }⟩ }
  refine FL.valG _ rfl rfl (m1.cat m2.rws hP2 (by have := f2.size; have := f3.size; omega) (by omega) rfl rfl) ?_
  rintro t29 wb ⟨m3, f4⟩
  refine sg_ rfl rfl rfl ?_
  refine FL.nilK ?_
  have f4 : Fr (fun _ => False) w1 wb := (f2.go f3).trans f4 fun k hk => .inr (m1.lt hk).1
  have f1 := f1.go f4
  have h4 : Rws wb wb.heap.size t29 (cs ++ ds) := m3.rws.rws
  have h1 : Rws wb wb.heap.size v cs := (h1.go f4).p.rws
  have h3 : ∀ i, i < ts.length → ∃ ad, A3 = some ad ∧ wb.cell? (ad.add i) = some (.bool (ts.getD i false)) := fun i hi => by
    obtain ⟨ad, e4, e5⟩ := h3 i hi
    exact ⟨ad, e4, f4.cell e5 fun h => h⟩
  clear f2 f3 f4 m1 m2 m3 hP2 m1o h2
  have hal : ∀ c ∈ cs ++ ds, c.length < 1099511627776 := fun c hc => (List.mem_append.1 hc).elim (q1 c) (q2 c)
  have q1' : ∀ c ∈ cs, c.length < 4611686018427387904 := fun c hc => by have := q1 c hc; omega
  have hal' : ∀ c ∈ cs ++ ds, c.length < 4611686018427387904 := fun c hc => by have := hal c hc; omega
  have hall : (cs ++ ds).length < 1099511627776 := by rw [List.length_append]; omega
  have k1 := large_calls a h1.p (by omega) q1'
  have k2 := large_calls a h4.p (by omega) hal'
  have k3 := check_calls a h4 (by omega) hal'
  refine FC.seq ?_
  cases c1 : largeV a cs with
  | true =>
    rw [c1] at k1
    refine FC.seq (FC.region ?_)
    refine mv_ rfl rfl rfl ?_
    refine mv_ rfl rfl rfl ?_
    refine FL.call rfl rfl (p_call Try.func20 rfl rfl rfl) (k1) ?_
    rintro e_ w_ ⟨rfl, rfl⟩
    refine ⟨_, rfl, ?_⟩
    refine mv_ rfl rfl rfl ?_
    refine FL.off rfl rfl ?_
    refine FL.off rfl rfl ?_
    refine FL.off rfl rfl ?_
    refine FL.pur rfl rfl (p_pick_t rfl rfl) ?_
    refine mv_ rfl rfl rfl ?_
    refine FL.off rfl rfl ?_
    refine FL.off rfl rfl ?_
    refine FL.off rfl rfl ?_
    refine FL.off rfl rfl ?_
    refine FL.pur rfl rfl (p_pick_t rfl rfl) ?_
    refine mv_ rfl rfl rfl ?_
    refine FL.off rfl rfl ?_
    refine FL.off rfl rfl ?_
    refine FL.pur rfl rfl (p_pick_t rfl rfl) ?_
    refine FL.nilK ?_
    refine FC.cond_t rfl ?_
    refine FC.seq (FC.region ?_)
    refine mv_ rfl rfl rfl ?_
    refine sg_ rfl rfl rfl ?_
    refine FL.nilK ?_
    refine FC.ret ?_
    repeat with_reducible first | refine thn_ret ?_ | refine blk_ret ?_ | refine nog_ret ?_
    exact ret1 Try.results5 rfl ⟨rfl, f1⟩
  | false =>
  rw [c1] at k1
  cases c2 : largeV a (cs ++ ds) with
  | true =>
    rw [c2] at k2
    refine FC.seq (FC.region ?_)
    refine mv_ rfl rfl rfl ?_
    refine mv_ rfl rfl rfl ?_
    refine FL.call rfl rfl (p_call Try.func20 rfl rfl rfl) (k1) ?_
    rintro e_ w_ ⟨rfl, rfl⟩
    refine ⟨_, rfl, ?_⟩
    refine mv_ rfl rfl rfl ?_
    refine mv_ rfl rfl rfl ?_
    refine mv_ rfl rfl rfl ?_
    refine FL.call rfl rfl (p_call Try.func20 rfl rfl rfl) (k2) ?_
    rintro e_ w_ ⟨rfl, rfl⟩
    refine ⟨_, rfl, ?_⟩
    refine FL.pur rfl rfl (p_pick_f rfl rfl) ?_
    refine mv_ rfl rfl rfl ?_
    refine FL.off rfl rfl ?_
    refine FL.off rfl rfl ?_
    refine FL.off rfl rfl ?_
    refine FL.off rfl rfl ?_
    refine FL.pur rfl rfl (p_pick_t rfl rfl) ?_
    refine mv_ rfl rfl rfl ?_
    refine FL.off rfl rfl ?_
    refine FL.off rfl rfl ?_
    refine FL.pur rfl rfl (p_pick_t rfl rfl) ?_
    refine FL.nilK ?_
    refine FC.cond_t rfl ?_
    refine FC.seq (FC.region ?_)
    refine mv_ rfl rfl rfl ?_
    refine sg_ rfl rfl rfl ?_
    refine FL.nilK ?_
    refine FC.ret ?_
    repeat with_reducible first | refine thn_ret ?_ | refine blk_ret ?_ | refine nog_ret ?_
    exact ret1 Try.results5 rfl ⟨rfl, f1⟩
  | false =>
  rw [c2] at k2
  by_cases c3 : checkV a (cs ++ ds) = 0
  rotate_left
  · refine FC.seq (FC.region ?_)
    refine mv_ rfl rfl rfl ?_
    refine mv_ rfl rfl rfl ?_
    refine FL.call rfl rfl (p_call Try.func20 rfl rfl rfl) (k1) ?_
    rintro e_ w_ ⟨rfl, rfl⟩
    refine ⟨_, rfl, ?_⟩
    refine mv_ rfl rfl rfl ?_
    refine mv_ rfl rfl rfl ?_
    refine mv_ rfl rfl rfl ?_
    refine FL.call rfl rfl (p_call Try.func20 rfl rfl rfl) (k2) ?_
    rintro e_ w_ ⟨rfl, rfl⟩
    refine ⟨_, rfl, ?_⟩
    refine FL.pur rfl rfl (p_pick_f rfl rfl) ?_
    refine mv_ rfl rfl rfl ?_
    refine mv_ rfl rfl rfl ?_
    refine mv_ rfl rfl rfl ?_
    refine FL.call rfl rfl (p_call Try.func12 rfl rfl rfl) (k3) ?_
    rintro e_ w_ ⟨rfl, rfl⟩
    refine ⟨_, rfl, ?_⟩
    refine FL.pur rfl rfl (p_neq rfl rfl (show _ = !true by simp [c3])) ?_
    refine FL.pur rfl rfl (p_pick_f rfl rfl) ?_
    refine mv_ rfl rfl rfl ?_
    refine FL.off rfl rfl ?_
    refine FL.off rfl rfl ?_
    refine FL.pur rfl rfl (p_pick_t rfl rfl) ?_
    refine FL.nilK ?_
    refine FC.cond_t rfl ?_
    refine FC.seq (FC.region ?_)
    refine mv_ rfl rfl rfl ?_
    refine sg_ rfl rfl rfl ?_
    refine FL.nilK ?_
    refine FC.ret ?_
    repeat with_reducible first | refine thn_ret ?_ | refine blk_ret ?_ | refine nog_ret ?_
    exact ret1 Try.results5 rfl ⟨rfl, f1⟩
  refine FC.seq (FC.region ?_)
  refine mv_ rfl rfl rfl ?_
  refine mv_ rfl rfl rfl ?_
  refine FL.call rfl rfl (p_call Try.func20 rfl rfl rfl) (k1) ?_
  rintro e_ w_ ⟨rfl, rfl⟩
  refine ⟨_, rfl, ?_⟩
  refine mv_ rfl rfl rfl ?_
  refine mv_ rfl rfl rfl ?_
  refine mv_ rfl rfl rfl ?_
  refine FL.call rfl rfl (p_call Try.func20 rfl rfl rfl) (k2) ?_
  rintro e_ w_ ⟨rfl, rfl⟩
  refine ⟨_, rfl, ?_⟩
  refine FL.pur rfl rfl (p_pick_f rfl rfl) ?_
  refine mv_ rfl rfl rfl ?_
  refine mv_ rfl rfl rfl ?_
  refine mv_ rfl rfl rfl ?_
  refine FL.call rfl rfl (p_call Try.func12 rfl rfl rfl) (k3) ?_
  rintro e_ w_ ⟨rfl, rfl⟩
  refine ⟨_, rfl, ?_⟩
  refine FL.pur rfl rfl (p_neq rfl rfl (show _ = !false by simp [c3])) ?_
  refine FL.pur rfl rfl (p_pick_f rfl rfl) ?_
  refine mv_ rfl rfl rfl ?_
  refine mv_ rfl rfl rfl ?_
  refine FL.pur rfl rfl (p_not rfl) ?_
  refine FL.pur rfl rfl (p_pick_f rfl rfl) ?_
  refine FL.nilK ?_
  refine FC.cond_f rfl (FC.skip (thn_normal ?_))
  obtain ⟨a1, a2, n1', _⟩ := large_no c1
  have c4 := check_left c3
  clear k1 k2 k3
  refine FC.seq (FC.region ?_)
  refine mv_ rfl rfl rfl ?_
  refine mv_ rfl rfl rfl ?_
  refine FL.call rfl rfl (p_call Try.func21 rfl rfl rfl) (solve_calls a 5000 h1 (Nat.le_refl _) (by omega) q1) ?_
  rintro e_ w_ ⟨ans, mv, pv, err, rfl, hso, f3⟩
  refine ⟨_, rfl, ?_⟩
  refine mv_ rfl rfl rfl ?_
  refine FL.pur rfl rfl (p_extract rfl rfl) ?_
  refine FL.pur rfl rfl (p_extract rfl rfl) ?_
  refine FL.val _ _ rfl rfl (p_allocA inf36_eq inf36_zero) ?_
  refine FL.sto _ rfl (p_storeA rfl rfl (heap_alloc_new _ _) inf36_size rfl (all3' rfl hso.cell.1 hso.cell.2)) ?_
  refine sg_ rfl rfl rfl ?_
  refine FL.nilK ?_
  obtain ⟨w6, b1, hw6, hb1, z1, f4⟩ := put_name w_ ans mv pv
  rw [← hw6, ← hb1]
  clear hw6 hb1
  obtain ⟨rfl, ho1⟩ := sol_ok' hso c4 (by decide)
  have f3 := f3.go f4
  have h1 : Rws w6 w6.heap.size v cs := (h1.go f3).p.rws
  have h4 : Rws w6 w6.heap.size t29 (cs ++ ds) := (h4.go f3).p.rws
  have h3 : ∀ i, i < ts.length → ∃ ad, A3 = some ad ∧ w6.cell? (ad.add i) = some (.bool (ts.getD i false)) := fun i hi => by
    obtain ⟨ad, e4, e5⟩ := h3 i hi
    exact ⟨ad, e4, f3.cell e5 fun h => h⟩
  have d1 : w6.cell? ⟨b1, 0, none⟩ = some (.int .u8 ans) := cell_row z1 rfl
  have f1 := f1.go f3
  clear f3 f4 hso z1
  refine FC.seq (FC.region ?_)
  refine mv_ rfl rfl rfl ?_
  refine mv_ rfl rfl rfl ?_
  refine FL.call rfl rfl (p_call Try.func21 rfl rfl rfl) (solve_calls a 5000 h4 (Nat.le_refl _) (by omega) hal) ?_
  rintro e_ w_ ⟨ans2, mv, pv, err, rfl, hso, f3⟩
  refine ⟨_, rfl, ?_⟩
  refine mv_ rfl rfl rfl ?_
  refine FL.pur rfl rfl (p_extract rfl rfl) ?_
  refine FL.pur rfl rfl (p_extract rfl rfl) ?_
  refine FL.val _ _ rfl rfl (p_allocA inf36_eq inf36_zero) ?_
  refine FL.sto _ rfl (p_storeA rfl rfl (heap_alloc_new _ _) inf36_size rfl (all3' rfl hso.cell.1 hso.cell.2)) ?_
  refine sg_ rfl rfl rfl ?_
  refine FL.nilK ?_
  obtain ⟨w7, b2, hw6, hb1, z1, f4⟩ := put_name w_ ans2 mv pv
  rw [← hw6, ← hb1]
  clear hw6 hb1
  obtain ⟨rfl, ho2⟩ := sol_ok' hso c3 (by decide)
  have f3 := f3.go f4
  have h1 : Rws w7 w7.heap.size v cs := (h1.go f3).p.rws
  have h3 : ∀ i, i < ts.length → ∃ ad, A3 = some ad ∧ w7.cell? (ad.add i) = some (.bool (ts.getD i false)) := fun i hi => by
    obtain ⟨ad, e4, e5⟩ := h3 i hi
    exact ⟨ad, e4, f3.cell e5 fun h => h⟩
  have d1 := f3.cell d1 fun h => h
  have d2 : w7.cell? ⟨b2, 0, none⟩ = some (.int .u8 ans2) := cell_row z1 rfl
  have f1 := f1.go f3
  clear f3 f4 hso z1 h4
  have h1' := h1
  obtain ⟨Av, cv, rfl, hvr⟩ := h1'
  have hb4 := (checkV_bad c4).2.2.2
  refine FC.seq (FC.region ?_)
  refine sg_ rfl rfl rfl ?_
  refine FL.nilK ?_
  refine FC.cut (σ := Value) (fun x => [(0, .int .i64 a), (9, .bool true), (11, .pointer (some ⟨b1, 0, none⟩)), (12, .int .i64 0), (13, .pointer (some ⟨b2, 0, none⟩)), (14, .int .i64 0), (15, x)]) (fun x w8 => Rws w8 w8.heap.size x (otherL ts cs) ∧ Fr (fun _ => False) w7 w8) ?_ ?_
  · refine FC.seq (FC.region ?_)
    refine mv_ rfl rfl rfl ?_
    refine FL.pur rfl rfl (p_len rfl Try.underlying22) ?_
    refine FL.pur rfl rfl (p_sub rfl rfl (wr (by omega) (by omega))) ?_
    refine sg_ rfl rfl rfl ?_
    refine FL.nilK ?_
    refine FC.block ?_
    refine FC.loop (σ := Nat × Value) (fun x => [(0, .int .i64 a), (1, .slice Av cs.length cv), (3, .slice A3 ts.length cp3), (9, .bool true), (11, .pointer (some ⟨b1, 0, none⟩)), (12, .int .i64 0), (13, .pointer (some ⟨b2, 0, none⟩)), (14, .int .i64 0), (15, x.2), (16, .int .i64 ((cs.length : Int) - 1 - x.1))]) (fun x w8 => x.1 ≤ cs.length ∧ AllRow w8 w7.heap.size (fun k => w7.heap.size ≤ k) x.2 ((otherL ts cs).take x.1) ∧ Fr (fun _ => False) w7 w8) (fun x => cs.length - x.1) (0, .slice none 0 0) ⟨Nat.zero_le _, by rw [List.take_zero]; exact AllRow.nil rfl, Fr.refl _ _⟩ ⟨rfl, rfl, rfl, rfl, rfl, rfl, rfl, rfl, rfl, by simp [Env.get], trivial⟩ ?_
    rintro ⟨k, u15⟩ w8 ⟨hk, hall15, hf⟩
    simp only at hk hall15 hf ⊢
    refine FC.seq ?_
    refine FC.seq (FC.region ?_)
    refine mv_ rfl rfl rfl ?_
    refine FL.pur rfl rfl (p_geq rfl rfl rfl) ?_
    refine FL.nilK ?_
    refine FC.cond (decide ((0 : Int) ≤ (cs.length : Int) - 1 - (k : Int))) rfl (fun hcc => FC.skip (thn_normal ?_)) (fun hcc => FC.exit ?_)
    rotate_left
    · have hge : ¬ (0 : Int) ≤ (cs.length : Int) - 1 - (k : Int) := of_decide_eq_false hcc
      rw [List.take_of_length_le (by rw [otherL_length]; omega)] at hall15
      exact thn_exit (thn_exit (blk_exit ⟨u15, ⟨rfl, rfl, rfl, rfl, rfl, rfl, rfl, trivial⟩, hall15.rws.rws, hf⟩))
    have hlt : k < cs.length := by have := of_decide_eq_true hcc; omega
    have e9 : ((cs.length : Int) - 1 - (k : Int)).toNat = cs.length - 1 - k := by omega
    obtain ⟨ad, r, rfl, _, hcr, Ar, cr, rfl, hrow⟩ := hvr (cs.length - 1 - k) (by omega)
    have hcr := hf.cell hcr fun h => h
    have hcmem : cs.getD (cs.length - 1 - k) [] ∈ cs := mem_getD (by omega)
    obtain ⟨c, hc⟩ : ∃ c, c = cs.getD (cs.length - 1 - k) [] := ⟨_, rfl⟩
    rw [← hc] at hcr hrow hcmem
    have hlc := l1 c hcmem
    refine FC.seq ?_
    refine FC.block ?_
    refine FC.seq (FC.region ?_)
    refine sg_ rfl rfl rfl ?_
    refine FL.nilK ?_
    refine FC.cut (σ := Value) (fun x => [(0, .int .i64 a), (1, .slice (some ad) cs.length cv), (3, .slice A3 ts.length cp3), (9, .bool true), (11, .pointer (some ⟨b1, 0, none⟩)), (12, .int .i64 0), (13, .pointer (some ⟨b2, 0, none⟩)), (14, .int .i64 0), (15, u15), (16, .int .i64 ((cs.length : Int) - 1 - k)), (17, x)]) (fun x w9 => w9.ownsRow w8.heap.size 3 1 x (turnC ts c).length (nums .i64 (turnC ts c)) ∧ Fr (fun _ => False) w8 w9) ?_ ?_
    · refine FC.seq (FC.region ?_)
      refine mv_ rfl rfl rfl ?_
      refine mv_ rfl rfl rfl ?_
      refine FL.pur rfl rfl (p_indexA rfl rfl Try.underlying22 inf41_eq inf41_size (by omega) (by omega)) ?_
      refine FL.val _ _ rfl rfl (p_load rfl Try.underlying41 rfl (by rw [e9]; exact hcr)) ?_
      refine FL.pur rfl rfl (p_len rfl Try.underlying41) ?_
      refine FL.pur rfl rfl (p_sub rfl rfl (wr (by omega) (by omega))) ?_
      refine sg_ rfl rfl rfl ?_
      refine FL.nilK ?_
      refine FC.block ?_
      refine FC.loop (σ := Nat × Value) (fun x => [(0, .int .i64 a), (1, .slice (some ad) cs.length cv), (3, .slice A3 ts.length cp3), (9, .bool true), (11, .pointer (some ⟨b1, 0, none⟩)), (12, .int .i64 0), (13, .pointer (some ⟨b2, 0, none⟩)), (14, .int .i64 0), (15, u15), (16, .int .i64 ((cs.length : Int) - 1 - k)), (17, x.2), (18, .int .i64 ((c.length : Int) - 1 - x.1))]) (fun x w9 => x.1 ≤ c.length ∧ w9.ownsRow w8.heap.size 3 1 x.2 ((turnC ts c).take x.1).length (nums .i64 ((turnC ts c).take x.1)) ∧ Fr (fun _ => False) w8 w9) (fun x => c.length - x.1) (0, .slice none 0 0) ⟨Nat.zero_le _, World.ownsRow_nil w8 _ _ _, Fr.refl _ _⟩ ⟨rfl, rfl, rfl, rfl, rfl, rfl, rfl, rfl, rfl, rfl, rfl, by simp [Env.get], trivial⟩ ?_
      rintro ⟨j, u17⟩ w9 ⟨hj, ho, hg⟩
      simp only at hj ho hg ⊢
      refine FC.seq ?_
      refine FC.seq (FC.region ?_)
      refine mv_ rfl rfl rfl ?_
      refine FL.pur rfl rfl (p_geq rfl rfl rfl) ?_
      refine FL.nilK ?_
      refine FC.cond (decide ((0 : Int) ≤ (c.length : Int) - 1 - (j : Int))) rfl (fun hcc => FC.skip (thn_normal ?_)) (fun hcc => FC.exit ?_)
      rotate_left
      · have hge : ¬ (0 : Int) ≤ (c.length : Int) - 1 - (j : Int) := of_decide_eq_false hcc
        rw [List.take_of_length_le (by rw [turnC_length]; omega)] at ho
        exact thn_exit (thn_exit (blk_exit ⟨u17, ⟨rfl, rfl, rfl, rfl, rfl, rfl, rfl, rfl, rfl, rfl, rfl, trivial⟩, ho, hg⟩))
      have hjt : j < c.length := by have := of_decide_eq_true hcc; omega
      have e8 : ((c.length : Int) - 1 - (j : Int)).toNat = c.length - 1 - j := by omega
      obtain ⟨ad2, rfl, _, hcl⟩ := hrow (c.length - 1 - j) (by omega)
      have hcl := (hf.go hg).cell hcl fun h => h
      obtain ⟨l, hl⟩ : ∃ l, l = g c (c.length - 1 - j) := ⟨_, rfl⟩
      have hlk := hb4 c hcmem l (by rw [hl]; exact g_mem (by omega))
      rw [← hl] at hcl
      refine FC.seq ?_
      refine FC.block ?_
      refine FC.seq (FC.region ?_)
      refine mv_ rfl rfl rfl ?_
      refine mv_ rfl rfl rfl ?_
      refine FL.pur rfl rfl (p_indexA rfl rfl Try.underlying22 inf41_eq inf41_size (by omega) (by omega)) ?_
      refine FL.val _ _ rfl rfl (p_load rfl Try.underlying41 rfl (by rw [e9]; exact hg.cell hcr fun h => h)) ?_
      refine mv_ rfl rfl rfl ?_
      refine FL.pur rfl rfl (p_indexA rfl rfl Try.underlying41 inf3_eq inf3_size (by omega) (by omega)) ?_
      refine FL.val _ _ rfl rfl (p_load rfl Try.underlying3 rfl (by rw [e8]; exact hcl)) ?_
      refine sg_ rfl rfl rfl ?_
      refine FL.nilK ?_
      refine FC.cut (σ := Unit) (fun _ => [(0, .int .i64 a), (1, .slice (some ad) cs.length cv), (3, .slice A3 ts.length cp3), (9, .bool true), (11, .pointer (some ⟨b1, 0, none⟩)), (12, .int .i64 0), (13, .pointer (some ⟨b2, 0, none⟩)), (14, .int .i64 0), (15, u15), (16, .int .i64 ((cs.length : Int) - 1 - k)), (17, u17), (18, .int .i64 ((c.length : Int) - 1 - j)), (19, .int .i64 (turnL ts l))]) (fun _ w10 => w10 = w9) ?_ ?_
      · refine FC.seq (FC.region ?_)
        refine mv_ rfl rfl rfl ?_
        refine mv_ rfl rfl rfl ?_
        refine FL.pur rfl rfl (p_neg rfl (wr (by omega) (by omega))) ?_
        refine FL.pur rfl rfl (p_max rfl rfl rfl) ?_
        refine FL.pur rfl rfl (p_sub rfl rfl (wr (by omega) (by omega))) ?_
        refine sg_ rfl rfl rfl ?_
        refine FL.nilK ?_
        by_cases hts : max l (-l) - 1 < ts.length
        · obtain ⟨ad3, rfl, hct⟩ := h3 (max l (-l) - 1).toNat (by omega)
          have hct := (hf.go hg).cell hct fun h => h
          refine FC.seq (FC.region ?_)
          refine mv_ rfl rfl rfl ?_
          refine mv_ rfl rfl rfl ?_
          refine FL.pur rfl rfl (p_len rfl Try.underlying23) ?_
          refine FL.pur rfl rfl (p_lss rfl rfl (decide_eq_true hts)) ?_
          refine mv_ rfl rfl rfl ?_
          refine mv_ rfl rfl rfl ?_
          refine mv_ rfl rfl rfl ?_
          refine FL.pur rfl rfl (p_indexA rfl rfl Try.underlying23 inf4_eq inf4_size (by omega) (by omega)) ?_
          refine FL.val _ _ rfl rfl (p_load rfl Try.underlying4 rfl hct) ?_
          refine FL.pur rfl rfl (p_pick_t rfl rfl) ?_
          refine FL.nilK ?_
          refine FC.cond (ts.getD (max l (-l) - 1).toNat false) rfl (fun hcb => ?_) (fun hcb => FC.skip ?_)
          · have e : turnL ts l = -l := by unfold turnL; rw [if_pos ⟨hts, hcb⟩]
            refine FC.region ?_
            refine mv_ rfl rfl rfl ?_
            refine FL.pur rfl rfl (p_neg rfl ((wr (by omega) (by omega)).trans e.symm)) ?_
            refine sg_ rfl rfl rfl ?_
            refine FL.nil ?_
            exact ⟨(), ⟨rfl, rfl, rfl, rfl, rfl, rfl, rfl, rfl, rfl, rfl, rfl, rfl, rfl, trivial⟩, rfl⟩
          · have e : turnL ts l = l := by unfold turnL; rw [if_neg fun h => by rw [h.2] at hcb; cases hcb]
            exact ⟨(), ⟨rfl, rfl, rfl, rfl, rfl, rfl, rfl, rfl, rfl, rfl, rfl, rfl, by rw [e]; rfl, trivial⟩, rfl⟩
        · have e : turnL ts l = l := by unfold turnL; rw [if_neg fun h => hts h.1]
          refine FC.seq (FC.region ?_)
          refine mv_ rfl rfl rfl ?_
          refine mv_ rfl rfl rfl ?_
          refine FL.pur rfl rfl (p_len rfl Try.underlying23) ?_
          refine FL.pur rfl rfl (p_lss rfl rfl (decide_eq_false hts)) ?_
          refine mv_ rfl rfl rfl ?_
          refine FL.off rfl rfl ?_
          refine FL.off rfl rfl ?_
          refine FL.off rfl rfl ?_
          refine FL.off rfl rfl ?_
          refine FL.pur rfl rfl (p_pick_f rfl rfl) ?_
          refine FL.nilK ?_
          refine FC.cond_f rfl (FC.skip ?_)
          exact ⟨(), ⟨rfl, rfl, rfl, rfl, rfl, rfl, rfl, rfl, rfl, rfl, rfl, rfl, by rw [e]; rfl, trivial⟩, rfl⟩
      rintro - w10 rfl
      have hl9 : ((turnC ts c).take j).length < 1099511627776 := by rw [List.length_take, turnC_length]; omega
      have hsg := hg.size
      refine FC.region ?_
      refine mv_ rfl rfl rfl ?_
      refine mv_ rfl rfl rfl ?_
      refine FL.val _ _ rfl rfl (bld41 rfl rfl) ?_
      refine FL.valG _ rfl rfl (own_appI ho hl9 (turnL ts l) hsg rfl rfl) ?_
      rintro v5 w5 ⟨ho5, f5, _⟩
      refine sg_ rfl rfl rfl ?_
      refine FL.nil ?_
      refine blk_normal (thn_normal ?_)
      refine FC.region ?_
      refine mv_ rfl rfl rfl ?_
      refine FL.pur rfl rfl (p_sub rfl rfl ((wr (by omega) (by omega)).trans (show (c.length : Int) - 1 - (j : Int) - 1 = (c.length : Int) - 1 - ((j + 1 : Nat) : Int) by omega))) ?_
      refine sg_ rfl rfl rfl ?_
      refine FL.nil ?_
      exact ⟨(j + 1, v5), ⟨rfl, rfl, rfl, rfl, rfl, rfl, rfl, rfl, rfl, rfl, rfl, rfl, trivial⟩, ⟨hjt, by rw [turnC_take j hjt, ← hl]; exact ho5, hg.trans f5 fun k hk => .inr (ho.lt k hk).1⟩, by show c.length - (j + 1) < c.length - j; omega⟩
    rintro u17 w9 ⟨ho, hg⟩
    have hu1 : u17.cells = #[u17] := by obtain ⟨_, _, rfl⟩ := own_slice ho; rfl
    have h15o : ∀ q, u15.ownBlock = some q → q < w8.heap.size := fun q hq => (hall15.lt hq).2
    have hall15 := hall15.fr hg (fun _ _ h => h) (fun _ _ h => h)
    have hs8 := hf.size
    have hs9 := hg.size
    have h15lt : ∀ q, u15.ownBlock = some q → w7.heap.size ≤ q := fun q hq => (hall15.lt hq).1
    have hr17 : RowP w9 (fun q => w7.heap.size ≤ q ∧ ¬ u15.ownBlock = some q) u17 (turnC ts c) := (rowP_own ho).mono fun q hq _ => ⟨by omega, fun e => by have := h15o q e; omega⟩
    have hl15 : ((otherL ts cs).take k).length < 1099511627776 := by rw [List.length_take, otherL_length]; omega
    refine FC.region ?_
    refine mv_ rfl rfl rfl ?_
    refine mv_ rfl rfl rfl ?_
    refine FL.val _ _ rfl rfl (bld22 rfl hu1) ?_
    refine FL.valG _ rfl rfl (hall15.app (by omega) hl15 hr17 rfl rfl) ?_
    rintro v5 w5 ⟨h5, f5, _⟩
    refine sg_ rfl rfl rfl ?_
    refine FL.nil ?_
    refine blk_normal (thn_normal ?_)
    refine FC.region ?_
    refine mv_ rfl rfl rfl ?_
    refine FL.pur rfl rfl (p_sub rfl rfl ((wr (by omega) (by omega)).trans (show (cs.length : Int) - 1 - (k : Int) - 1 = (cs.length : Int) - 1 - ((k + 1 : Nat) : Int) by omega))) ?_
    refine sg_ rfl rfl rfl ?_
    refine FL.nil ?_
    exact ⟨(k + 1, v5), ⟨rfl, rfl, rfl, rfl, rfl, rfl, rfl, rfl, rfl, rfl, trivial⟩, ⟨hlt, by rw [otherL_take k hlt, ← hc]; exact h5, (hf.go hg).trans f5 fun q hq => .inr (h15lt q hq)⟩, by show cs.length - (k + 1) < cs.length - k; omega⟩
  rintro u15 w8 ⟨h15, hf⟩
  have d1 := hf.cell d1 fun h => h
  have d2 := hf.cell d2 fun h => h
  have f1 := f1.go hf
  have c5 := other_check (ts := ts) c4
  have hol : ∀ c ∈ otherL ts cs, c.length < 1099511627776 := fun c hc => by
    obtain ⟨d, hd, rfl⟩ := List.mem_map.1 hc
    rw [turnC_length]
    exact q1 d (List.mem_reverse.1 hd)
  refine FC.seq (FC.region ?_)
  refine mv_ rfl rfl rfl ?_
  refine mv_ rfl rfl rfl ?_
  refine FL.call rfl rfl (p_call Try.func21 rfl rfl rfl) (solve_calls a 5000 h15 (Nat.le_refl _) (by rw [otherL_length]; omega) hol) ?_
  rintro e_ w_ ⟨ans3, mv, pv, err, rfl, hso, f3⟩
  refine ⟨_, rfl, ?_⟩
  refine mv_ rfl rfl rfl ?_
  refine FL.pur rfl rfl (p_extract rfl rfl) ?_
  refine FL.pur rfl rfl (p_extract rfl rfl) ?_
  refine FL.val _ _ rfl rfl (p_allocA inf36_eq inf36_zero) ?_
  refine FL.sto _ rfl (p_storeA rfl rfl (heap_alloc_new _ _) inf36_size rfl (all3' rfl hso.cell.1 hso.cell.2)) ?_
  refine sg_ rfl rfl rfl ?_
  refine FL.nilK ?_
  obtain ⟨w9, b3, hw6, hb1, z1, f4⟩ := put_name w_ ans3 mv pv
  rw [← hw6, ← hb1]
  clear hw6 hb1
  obtain ⟨rfl, ho3⟩ := sol_ok' hso c5 (by decide)
  have f3 := f3.go f4
  have d1 := f3.cell d1 fun h => h
  have d2 := f3.cell d2 fun h => h
  have d3 : w9.cell? ⟨b3, 0, none⟩ = some (.int .u8 ans3) := cell_row z1 rfl
  have f1 := f1.go f3
  clear f3 f4 hso z1
  have g12 : ¬ (ans = 2 ∧ ans2 = 1) := fun ⟨x1, x2⟩ => by
    rcases ho2 with ⟨_, bs, y1, y2⟩ | ⟨y, _⟩ | y
    · rcases ho1 with ⟨y, _⟩ | ⟨_, y⟩ | y
      · omega
      · exact y bs y1 (sat_of fun c hc => y2.at (List.mem_append_left _ hc))
      · omega
    · omega
    · omega
  have g13 : ans = 3 ∨ ans3 = 3 ∨ ans = ans3 := by
    rcases ho1 with ⟨x, bs, y1, y2⟩ | ⟨x, y⟩ | x
    · rcases ho3 with ⟨x', _⟩ | ⟨x', y'⟩ | x'
      · exact .inr (.inr (by omega))
      · exact absurd (other_sat y2) (y' _ (by rw [flip_length]; exact y1))
      · exact .inr (.inl x')
    · rcases ho3 with ⟨x', bs, y1, y2⟩ | ⟨x', y'⟩ | x'
      · exact absurd (sat_other y2) (y _ (by rw [flip_length]; exact y1))
      · exact .inr (.inr (by omega))
      · exact .inr (.inl x')
    · exact .inl x
  refine FC.seq ?_
  refine FC.seq (FC.region ?_)
  refine mv_ rfl rfl rfl ?_
  refine FL.pur rfl rfl (p_neq rfl rfl (show _ = !false by decide)) ?_
  refine mv_ rfl rfl rfl ?_
  refine mv_ rfl rfl rfl ?_
  refine FL.pur rfl rfl (p_neq rfl rfl (show _ = !false by decide)) ?_
  refine FL.pur rfl rfl (p_pick_f rfl rfl) ?_
  refine mv_ rfl rfl rfl ?_
  refine mv_ rfl rfl rfl ?_
  refine FL.pur rfl rfl (p_neq rfl rfl (show _ = !false by decide)) ?_
  refine FL.pur rfl rfl (p_pick_f rfl rfl) ?_
  refine FL.nilK ?_
  refine FC.cond_f rfl (FC.skip (thn_normal ?_))
  refine FC.cut (σ := Bool) (fun h => [(9, .bool true), (11, .pointer (some ⟨b1, 0, none⟩)), (13, .pointer (some ⟨b2, 0, none⟩)), (21, .pointer (some ⟨b3, 0, none⟩)), (23, .bool h)]) (fun h w10 => (h = false → ans = ans3) ∧ w10 = w9) ?_ ?_
  · by_cases e3 : ans = 3
    · refine FC.region ?_
      refine FL.pur rfl rfl (fld36_0 rfl) ?_
      refine FL.val _ _ rfl rfl (p_load rfl Try.underlying5 rfl d1) ?_
      refine FL.pur rfl rfl (p_eql rfl rfl (decide_eq_true e3)) ?_
      refine mv_ rfl rfl rfl ?_
      refine FL.off rfl rfl ?_
      refine FL.off rfl rfl ?_
      refine FL.off rfl rfl ?_
      refine FL.pur rfl rfl (p_pick_t rfl rfl) ?_
      refine sg_ rfl rfl rfl ?_
      refine FL.nil ?_
      exact ⟨true, ⟨rfl, rfl, rfl, rfl, rfl, trivial⟩, fun h => (by cases h), rfl⟩
    · refine FC.region ?_
      refine FL.pur rfl rfl (fld36_0 rfl) ?_
      refine FL.val _ _ rfl rfl (p_load rfl Try.underlying5 rfl d1) ?_
      refine FL.pur rfl rfl (p_eql rfl rfl (decide_eq_false e3)) ?_
      refine mv_ rfl rfl rfl ?_
      refine FL.pur rfl rfl (fld36_0 rfl) ?_
      refine FL.val _ _ rfl rfl (p_load rfl Try.underlying5 rfl d3) ?_
      refine FL.pur rfl rfl (p_eql rfl rfl rfl) ?_
      refine FL.pur rfl rfl (p_pick_f rfl rfl) ?_
      refine sg_ rfl rfl rfl ?_
      refine FL.nil ?_
      refine ⟨_, ⟨rfl, rfl, rfl, rfl, rfl, trivial⟩, fun h => ?_, rfl⟩
      have := of_decide_eq_false h
      rcases g13 with h | h | h
      · omega
      · omega
      · exact h
  rintro h w10 ⟨hh, rfl⟩
  by_cases e2 : ans = 2
  · have e1 : ¬ ans2 = 1 := fun e => g12 ⟨e2, e⟩
    cases h with
    | true =>
      refine FC.seq (FC.region ?_)
      refine mv_ rfl rfl rfl ?_
      refine mv_ rfl rfl rfl ?_
      refine FL.pur rfl rfl (fld36_0 rfl) ?_
      refine FL.val _ _ rfl rfl (p_load rfl Try.underlying5 rfl d1) ?_
      refine FL.pur rfl rfl (p_eql rfl rfl (decide_eq_true e2)) ?_
      refine mv_ rfl rfl rfl ?_
      refine FL.pur rfl rfl (fld36_0 rfl) ?_
      refine FL.val _ _ rfl rfl (p_load rfl Try.underlying5 rfl d2) ?_
      refine FL.pur rfl rfl (p_eql rfl rfl (decide_eq_false e1)) ?_
      refine FL.pur rfl rfl (p_pick_t rfl rfl) ?_
      refine FL.pur rfl rfl (p_not rfl) ?_
      refine FL.pur rfl rfl (p_pick_t rfl rfl) ?_
      refine mv_ rfl rfl rfl ?_
      refine mv_ rfl rfl rfl ?_
      refine mv_ rfl rfl rfl ?_
      refine FL.off rfl rfl ?_
      refine FL.off rfl rfl ?_
      refine FL.off rfl rfl ?_
      refine FL.off rfl rfl ?_
      refine FL.off rfl rfl ?_
      refine FL.pur rfl rfl (p_pick_t rfl rfl) ?_
      refine FL.pur rfl rfl (p_pick_t rfl rfl) ?_
      refine sg_ rfl rfl rfl ?_
      refine FL.nilK ?_
      refine FC.ret ?_
      repeat with_reducible first | refine thn_ret ?_ | refine blk_ret ?_ | refine nog_ret ?_
      exact ret1 Try.results5 rfl ⟨rfl, f1⟩
    | false =>
      refine FC.seq (FC.region ?_)
      refine mv_ rfl rfl rfl ?_
      refine mv_ rfl rfl rfl ?_
      refine FL.pur rfl rfl (fld36_0 rfl) ?_
      refine FL.val _ _ rfl rfl (p_load rfl Try.underlying5 rfl d1) ?_
      refine FL.pur rfl rfl (p_eql rfl rfl (decide_eq_true e2)) ?_
      refine mv_ rfl rfl rfl ?_
      refine FL.pur rfl rfl (fld36_0 rfl) ?_
      refine FL.val _ _ rfl rfl (p_load rfl Try.underlying5 rfl d2) ?_
      refine FL.pur rfl rfl (p_eql rfl rfl (decide_eq_false e1)) ?_
      refine FL.pur rfl rfl (p_pick_t rfl rfl) ?_
      refine FL.pur rfl rfl (p_not rfl) ?_
      refine FL.pur rfl rfl (p_pick_t rfl rfl) ?_
      refine mv_ rfl rfl rfl ?_
      refine mv_ rfl rfl rfl ?_
      refine mv_ rfl rfl rfl ?_
      refine FL.pur rfl rfl (fld36_0 rfl) ?_
      refine FL.val _ _ rfl rfl (p_load rfl Try.underlying5 rfl d1) ?_
      refine FL.pur rfl rfl (fld36_0 rfl) ?_
      refine FL.val _ _ rfl rfl (p_load rfl Try.underlying5 rfl d3) ?_
      refine FL.pur rfl rfl (p_eql rfl rfl (decide_eq_true (hh rfl))) ?_
      refine FL.pur rfl rfl (p_pick_f rfl rfl) ?_
      refine FL.pur rfl rfl (p_pick_t rfl rfl) ?_
      refine sg_ rfl rfl rfl ?_
      refine FL.nilK ?_
      refine FC.ret ?_
      repeat with_reducible first | refine thn_ret ?_ | refine blk_ret ?_ | refine nog_ret ?_
      exact ret1 Try.results5 rfl ⟨rfl, f1⟩
  · cases h with
    | true =>
      refine FC.seq (FC.region ?_)
      refine mv_ rfl rfl rfl ?_
      refine mv_ rfl rfl rfl ?_
      refine FL.pur rfl rfl (fld36_0 rfl) ?_
      refine FL.val _ _ rfl rfl (p_load rfl Try.underlying5 rfl d1) ?_
      refine FL.pur rfl rfl (p_eql rfl rfl (decide_eq_false e2)) ?_
      refine mv_ rfl rfl rfl ?_
      refine FL.off rfl rfl ?_
      refine FL.off rfl rfl ?_
      refine FL.off rfl rfl ?_
      refine FL.pur rfl rfl (p_pick_f rfl rfl) ?_
      refine FL.pur rfl rfl (p_not rfl) ?_
      refine FL.pur rfl rfl (p_pick_t rfl rfl) ?_
      refine mv_ rfl rfl rfl ?_
      refine mv_ rfl rfl rfl ?_
      refine mv_ rfl rfl rfl ?_
      refine FL.off rfl rfl ?_
      refine FL.off rfl rfl ?_
      refine FL.off rfl rfl ?_
      refine FL.off rfl rfl ?_
      refine FL.off rfl rfl ?_
      refine FL.pur rfl rfl (p_pick_t rfl rfl) ?_
      refine FL.pur rfl rfl (p_pick_t rfl rfl) ?_
      refine sg_ rfl rfl rfl ?_
      refine FL.nilK ?_
      refine FC.ret ?_
      repeat with_reducible first | refine thn_ret ?_ | refine blk_ret ?_ | refine nog_ret ?_
      exact ret1 Try.results5 rfl ⟨rfl, f1⟩
    | false =>
      refine FC.seq (FC.region ?_)
      refine mv_ rfl rfl rfl ?_
      refine mv_ rfl rfl rfl ?_
      refine FL.pur rfl rfl (fld36_0 rfl) ?_
      refine FL.val _ _ rfl rfl (p_load rfl Try.underlying5 rfl d1) ?_
      refine FL.pur rfl rfl (p_eql rfl rfl (decide_eq_false e2)) ?_
      refine mv_ rfl rfl rfl ?_
      refine FL.off rfl rfl ?_
      refine FL.off rfl rfl ?_
      refine FL.off rfl rfl ?_
      refine FL.pur rfl rfl (p_pick_f rfl rfl) ?_
      refine FL.pur rfl rfl (p_not rfl) ?_
      refine FL.pur rfl rfl (p_pick_t rfl rfl) ?_
      refine mv_ rfl rfl rfl ?_
      refine mv_ rfl rfl rfl ?_
      refine mv_ rfl rfl rfl ?_
      refine FL.pur rfl rfl (fld36_0 rfl) ?_
      refine FL.val _ _ rfl rfl (p_load rfl Try.underlying5 rfl d1) ?_
      refine FL.pur rfl rfl (fld36_0 rfl) ?_
      refine FL.val _ _ rfl rfl (p_load rfl Try.underlying5 rfl d3) ?_
      refine FL.pur rfl rfl (p_eql rfl rfl (decide_eq_true (hh rfl))) ?_
      refine FL.pur rfl rfl (p_pick_f rfl rfl) ?_
      refine FL.pur rfl rfl (p_pick_t rfl rfl) ?_
      refine sg_ rfl rfl rfl ?_
      refine FL.nilK ?_
      refine FC.ret ?_
      repeat with_reducible first | refine thn_ret ?_ | refine blk_ret ?_ | refine nog_ret ?_
      exact ret1 Try.results5 rfl ⟨rfl, f1⟩
end
end Go.Proofs.Ytcahhbcehnbdkaa.Sv

/- Arguments of a row, opened: rows of rows of numbers, rows of truth values. -/
namespace Go.Proofs.Ytcahhbcehnbdkaa.Sv
open Go.RowKit Go.ChangeShapes Go.WideShapes Go.ChangeAt Go.Deep Go.Proofs.YtcahhbcehnbdkaaW.PrintWords
section
variable {H : Type} {enc : TypeId × Value → H} {W : World} {d : DataW H} {ps : List MemPlace} {ts : List TypeId} {ds : List (DataW H)} {j : Nat} {a : Option Addr} {len cap : Nat}
theorem weights_all {P : Program} {e : TypeId} : ∀ {l : List (DataW H)} {x : DataW H}, x ∈ l → ∀ n ∈ x.weights P e, n ∈ DataW.weightsAll P e l
  | y :: l, x, hx, n, hn => by
    rw [DataW.weightsAll]
    rcases List.mem_cons.1 hx with rfl | hx
    · exact List.mem_append.2 (.inl hn)
    · exact List.mem_append.2 (.inr (weights_all hx n hn))
theorem wf64 {n : Int} (h : (Lit.int .i64 n).wf = true) : -9223372036854775808 ≤ n ∧ n < 9223372036854775808 := by
  simp [Lit.wf, IntKind.min, IntKind.max, IntKind.signed, IntKind.bits] at h
  omega
theorem open_in (hsz : (DataW.weightsEach Try.prog ts ds).all (· ≤ reachBytes) = true) (ht : ts[j]? = some 22) (hd : ds[j]? = some d) (h : DataW.Trod enc Try.prog W 0 (fun _ => true) true 22 (.slice a len cap) d ps) :
    ∃ cs, Rws W W.heap.size (.slice a len cap) cs ∧ Sized cs ∧ ∀ c ∈ cs, Small64 c := by
  obtain ⟨fuel, hf⟩ := h
  rcases open_int_rows Try.underlying22 Try.underlying41 Try.underlying3 (by kernel_rfl) (by kernel_rfl) hf with ⟨hcs, _⟩ | ⟨x, l, c, A, L, C, Z, hcs, _, hl, hm, hx, hr⟩
  · simp [Value.cells] at hcs
    obtain ⟨rfl, rfl, rfl⟩ := hcs
    exact ⟨[], ⟨none, 0, rfl, fun i hi => absurd hi (Nat.not_lt_zero _)⟩, ⟨by simp, by simp⟩, by simp⟩
  · simp [Value.cells] at hcs
    obtain ⟨rfl, rfl, rfl⟩ := hcs
    obtain ⟨hx, _⟩ := Prod.mk.inj hx
    subst hx
    have hlen : ((List.range len).map fun r => (Z r).take (L r)).length = len := by simp
    have hwt := DataW.weights_mem_each (P := Try.prog) ht hd
    have hall := List.all_eq_true.1 hsz
    have hn : len * 24 ≤ 140737488351232 := by
      have z := sized_slice hsz ht hd Try.underlying22
      rw [show Try.prog.bytesOf 41 = 24 by kernel_rfl] at z
      have : reachBytes = 140737488351232 := rfl
      simp only [List.length_map, List.length_range] at z
      omega
    have hrow : ∀ r, r < len → L r * 8 ≤ 140737488351232 := fun r hrl => by
      obtain ⟨_, h1, _, h3, _, h5, _⟩ := hr r (by omega)
      cases hA : A r with
      | none => have := h5 hA; omega
      | some ad =>
        have hmem : ((Z r).take (L r)).length + ((Z r).drop (L r)).length = (Z r).length := by rw [← List.length_append, List.take_append_drop]
        have e : ((Z r).take (L r)).length * 8 + ((Z r).drop (L r)).length * 8 ≤ reachBytes := by
          have hin : intRow (H := H) .i64 (A r) (L r) (Z r) ∈ (List.range len).map fun r => intRow .i64 (A r) (L r) (Z r) := List.mem_map.2 ⟨r, List.mem_range.2 hrl, rfl⟩
          have h0 : (((Z r).take (L r)).length + ((Z r).drop (L r)).length) * 8 ∈ (intRow (H := H) .i64 (A r) (L r) (Z r)).weights Try.prog 41 := by
            rw [hA]
            simp only [intRow, DataW.weights, Try.underlying41, lits, List.length_map]
            rw [show Try.prog.bytesOf 3 = 8 by kernel_rfl]
            exact List.mem_cons_self
          have h1 := weights_all hin _ h0
          have h2 := hall _ (hwt _ (by
            simp only [DataW.weights, Try.underlying22]
            exact List.mem_cons_of_mem _ (List.mem_append.2 (.inl h1))))
          have h2 := of_decide_eq_true h2
          omega
        have : reachBytes = 140737488351232 := rfl
        omega
    refine ⟨(List.range len).map fun r => (Z r).take (L r), ⟨some x, cap, by rw [hlen], fun r hrl => ?_⟩, ⟨by rw [hlen]; omega, fun q hq => ?_⟩, fun q hq => ?_⟩
    · rw [hlen] at hrl
      obtain ⟨h0, h1, h2, h3, h4, h5, h6⟩ := hr r (by omega)
      have hlr : ((Z r).take (L r)).length = L r := by rw [List.length_take]; omega
      have eq : ((List.range len).map fun r => (Z r).take (L r)).getD r [] = (Z r).take (L r) := by
        rw [List.getD_eq_getElem?_getD, List.getElem?_map, List.getElem?_range hrl]; rfl
      have hb := World.block_lt_of_cell? W _ h0
      rw [add_block] at hb
      refine ⟨x, _, rfl, hb, h0, ?_⟩
      rw [eq]
      refine ⟨A r, C r, by rw [hlr], fun k hk => ?_⟩
      rw [hlr] at hk
      cases hA : A r with
      | none => have := h5 hA; omega
      | some ad =>
        have hc := (h6 ad hA).2 k (by omega)
        have hb2 := World.block_lt_of_cell? W _ hc
        rw [add_block] at hb2
        refine ⟨ad, rfl, hb2, ?_⟩
        rw [hc, g, List.getD_eq_getElem?_getD, List.getD_eq_getElem?_getD, List.getElem?_take, if_pos hk]
    · obtain ⟨r, hr1, rfl⟩ := List.mem_map.1 hq
      have hrl := List.mem_range.1 hr1
      have := hrow r hrl
      rw [List.length_take]
      omega
    · obtain ⟨r, hr1, rfl⟩ := List.mem_map.1 hq
      have hrl := List.mem_range.1 hr1
      obtain ⟨_, _, _, _, h4, _⟩ := hr r (by omega)
      exact fun n hn => wf64 (h4 n (List.mem_of_mem_take hn))
theorem open_bin (hsz : (DataW.weightsEach Try.prog ts ds).all (· ≤ reachBytes) = true) (ht : ts[j]? = some 23) (hd : ds[j]? = some d) (h : DataW.Trod enc Try.prog W 0 (fun _ => true) true 23 (.slice a len cap) d ps) :
    ∃ bs, len = bs.length ∧ BRow W W.heap.size (.slice a len cap) bs ∧ bs.length ≤ 140737488351232 := by
  obtain ⟨fuel, hf⟩ := h
  rcases open_bools Try.underlying23 Try.underlying4 (by kernel_rfl) hf with ⟨hcs, _⟩ | ⟨x, l, c, B, hcs, _, hl, hm, hx, hr⟩
  · simp [Value.cells] at hcs
    obtain ⟨rfl, rfl, rfl⟩ := hcs
    exact ⟨[], rfl, ⟨none, 0, rfl, fun i hi => absurd hi (Nat.not_lt_zero _)⟩, by simp⟩
  · simp [Value.cells] at hcs
    obtain ⟨rfl, rfl, rfl⟩ := hcs
    obtain ⟨hx, _⟩ := Prod.mk.inj hx
    have hlen : ((List.range len).map B).length = len := by simp
    refine ⟨(List.range len).map B, hlen.symm, ⟨some x, cap, by rw [hlen], fun r hrl => ?_⟩, ?_⟩
    · rw [hlen] at hrl
      have h0 := hr r (by omega)
      have hb := World.block_lt_of_cell? W _ h0
      rw [add_block] at hb
      refine ⟨x, rfl, hb, ?_⟩
      rw [h0, List.getD_eq_getElem?_getD, List.getElem?_map, List.getElem?_range hrl]
      rfl
    · rw [hlen]
      subst hx
      have z := sized_slice hsz ht hd Try.underlying23
      rw [show Try.prog.bytesOf 4 = 1 by kernel_rfl] at z
      have : reachBytes = 140737488351232 := rfl
      simp only [List.length_map, List.length_range] at z
      omega
theorem checks_row (W : World) (a0 : Int) (w0 : -9223372036854775808 ≤ a0 ∧ a0 < 9223372036854775808) {v1 v2 : Value} {l1 l2 : List (List Int)} {a : Option Addr} {c : Nat} {l3 : List Bool} (k1 : Rws W W.heap.size v1 l1) (z1 : Sized l1) (b1 : ∀ c ∈ l1, Small64 c) (k2 : Rws W W.heap.size v2 l2) (z2 : Sized l2) (_ : ∀ c ∈ l2, Small64 c) (k3 : BRow W W.heap.size (.slice a l3.length c) l3) (b3 : l3.length ≤ 140737488351232) :
    Calls Try.prog 3 #[.int .i64 a0, v1, v2, .slice a l3.length c] W fun e w' => e = .returned (.bool true) ∧ Below W.heap.size W w' := (checks_law a0 w0 (Nat.le_refl _) k1 k2 k3 z1 z2 b1 b3).mono fun _ _ ⟨h1, h2⟩ => ⟨h1, h2.below' fun _ h => h.elim⟩
end
end Go.Proofs.Ytcahhbcehnbdkaa.Sv

/- SolveMore holds where what it reads is of bulk at most 1048576: the law returns true, and each argument reads behind the call as it read before. -/
namespace Go.Proofs.Ytcahhbcehnbdkaa.solveMore
open Go.ChangeShapes Go.WideShapes Go.ChangeAt Go.RowKit Go.Deep Go.Proofs.Ytcahhbcehnbdkaa.Sv
set_option linter.unusedVariables false
theorem own : ownKnob Try.prog.godebug = none := by kernel_rfl
theorem laidOut : laidOutB Try.prog = true := by kernel_rfl
section
variable {H : Type} {enc : TypeId × Value → H} {W : World} {d : DataW H} {ps : List MemPlace} {a : Option Addr} {len cap B : Nat} {cs : List (List Int)}
theorem bulk_pos (d : DataW H) : 1 ≤ Rows.uptoBulk d := by
  cases d with
  | lit l => cases l <;> simp [Rows.uptoBulk]
  | _ => simp [Rows.uptoBulk]
theorem bulk_len : ∀ l : List (DataW H), l.length ≤ Rows.uptoBulkAll l
  | [] => Nat.zero_le _
  | d :: r => by
    have := bulk_pos d
    have := bulk_len r
    simp only [Rows.uptoBulkAll, List.length_cons]
    omega
theorem bulk_mem : ∀ {l : List (DataW H)} {x : DataW H}, x ∈ l → Rows.uptoBulk x ≤ Rows.uptoBulkAll l
  | d :: r, x, h => by
    simp only [Rows.uptoBulkAll]
    rcases List.mem_cons.1 h with rfl | h
    · omega
    · have := bulk_mem h
      omega
theorem bulk_in (h : DataW.Trod enc Try.prog W 0 (fun _ => true) true 22 (.slice a len cap) d ps) (k : Rws W B (.slice a len cap) cs) : cs.length ≤ Rows.uptoBulk d ∧ ∀ c ∈ cs, c.length ≤ Rows.uptoBulk d := by
  obtain ⟨fuel, hf⟩ := h
  obtain ⟨A', cap', e, hk⟩ := k
  injection e with e1 e2 e3
  subst e1
  rcases open_int_rows Try.underlying22 Try.underlying41 Try.underlying3 (by kernel_rfl) (by kernel_rfl) hf with ⟨hcs, _⟩ | ⟨x, l, c, A, L, C, Z, hcs, _, hl, hm, hx, hr⟩
  · simp [Value.cells] at hcs
    obtain ⟨rfl, rfl, rfl⟩ := hcs
    have : cs = [] := List.length_eq_zero_iff.1 e2.symm
    subst this
    exact ⟨Nat.zero_le _, by simp⟩
  · simp [Value.cells] at hcs
    obtain ⟨rfl, rfl, rfl⟩ := hcs
    obtain ⟨hx, _⟩ := Prod.mk.inj hx
    subst hx
    have h1 : ((List.range len).map fun r => intRow (H := H) .i64 (A r) (L r) (Z r)).length = len := by simp
    have h2 := bulk_len ((List.range len).map fun r => intRow (H := H) .i64 (A r) (L r) (Z r))
    refine ⟨by simp only [Rows.uptoBulk]; omega, fun q hq => ?_⟩
    obtain ⟨r, hrl, rfl⟩ := List.mem_iff_getElem.1 hq
    obtain ⟨ad, u, e1, _, e3, A2, c2, rfl, _⟩ := hk r hrl
    injection e1 with e1
    subst e1
    obtain ⟨g1, g2, g3, g4, g5, g6, _⟩ := hr r (by omega)
    rw [g1] at e3
    injection e3 with e3
    injection e3 with _ e3 _
    have e4 : cs[r].length = L r := by
      rw [e3, List.getD_eq_getElem?_getD, List.getElem?_eq_getElem hrl]; rfl
    rw [e4]
    have h3 := bulk_mem (l := (List.range len).map fun r => intRow (H := H) .i64 (A r) (L r) (Z r)) (x := intRow .i64 (A r) (L r) (Z r)) (List.mem_map.2 ⟨r, List.mem_range.2 (by omega), rfl⟩)
    have h4 : L r ≤ Rows.uptoBulk (intRow (H := H) .i64 (A r) (L r) (Z r)) := by
      cases hA : A r with
      | none => have := g6 hA; omega
      | some ad =>
        have h5 := bulk_len (lits (H := H) .i64 ((Z r).take (L r)))
        have h6 : (lits (H := H) .i64 ((Z r).take (L r))).length = L r := by simp [lits]; omega
        simp only [intRow, Rows.uptoBulk]
        omega
    simp only [Rows.uptoBulk]
    omega
end
set_option maxRecDepth 100000 in
theorem lifted (os : Os) (started : os.Started) (H : Type) (enc : TypeId × Value → H) (F0 : Stop.Interp) :
    ReturnsInHanded {} Try.checked os 5 .any ((Rows.OpenSpec.upto Rows.solveMoreSpec).pre6 enc Try.prog Try.f5 Rows.solveMoreUptoRow.domain false) (((Rows.OpenSpec.upto Rows.solveMoreSpec).at F0).post enc Try.prog Try.f5 false true false false) := by
  refine returnsInHanded_of_cond_sized (C := Try.checked) (s := Rows.OpenSpec.upto Rows.solveMoreSpec) (k := Rows.uptoSmall) rfl own started (by kernel_rfl) Try.func5
    (OpenSpec.witness (enc := enc) (C := Try.checked) (s := Rows.OpenSpec.upto Rows.solveMoreSpec) (k := Rows.uptoSmall) rfl false ⟨#[], #[.int .i64 0, .slice none 0 0, .slice none 0 0, .slice none 0 0], []⟩ 8 (by kernel_rfl) (by kernel_rfl) (by kernel_rfl)
      (x := ([.lit (.int .i64 0), .nil, .nil, .nil], [], [])) (by kernel_rfl) (by kernel_rfl) (by kernel_rfl)) ?_
  intro W base args ds gs before hval0 hW hcnd hk hsz0 _
  have hsz : (DataW.weightsEach Try.prog (Try.f5.params.toList ++ Rows.solveMoreSpec.plain.varTypes Try.prog) (ds ++ gs)).all (· ≤ reachBytes) = true := hsz0
  have hval : ∀ (j : Nat) t v, Try.f5.params[j]? = some t → args[j]? = some v → Value.okWide Try.prog W .any base t v := hval0
  have hW' := hW
  obtain ⟨p, q, hA0, hV, rfl, hfz, hnd⟩ := hW
  have hA : DataW.TrodAll enc Try.prog W 0 (fun _ => true) true Try.f5.params.toList args.toList ds p := hA0
  rw [Try.params5] at hA hval hsz
  obtain ⟨v0, vs0, d0, ds0, p0, q0, hargs, rfl, rfl, h0, r0⟩ := trodAll_cons hA
  obtain ⟨v1, vs1, d1, ds1, p1, q1, rfl, rfl, rfl, h1, r1⟩ := trodAll_cons r0
  obtain ⟨v2, vs2, d2, ds2, p2, q2, rfl, rfl, rfl, h2, r2⟩ := trodAll_cons r1
  obtain ⟨v3, vs3, d3, ds3, p3, q3, rfl, rfl, rfl, h3, r3⟩ := trodAll_cons r2
  obtain ⟨rfl, rfl, rfl⟩ := trodAll_nil r3
  obtain rfl : args = #[v0, v1, v2, v3] := by cases args; simp_all
  obtain ⟨rfl, rfl⟩ := trodVars_none hV
  obtain ⟨a0, rfl, rfl, rfl, w0⟩ := open_int Try.underlying3 (hval 0 3 v0 rfl rfl) h0
  obtain ⟨a1, len1, cap1, rfl⟩ := okWide_slice Try.underlying22 (hval 1 22 v1 rfl rfl)
  have lt1 : ∀ x ∈ p1, x.block < W.heap.size := by obtain ⟨m, hm⟩ := h1; exact DataW.trod_lt m _ _ _ hm
  obtain ⟨l1, k1, z1, b1⟩ := open_in (j := 1) hsz rfl rfl h1
  obtain ⟨a2, len2, cap2, rfl⟩ := okWide_slice Try.underlying22 (hval 2 22 v2 rfl rfl)
  have lt2 : ∀ x ∈ p2, x.block < W.heap.size := by obtain ⟨m, hm⟩ := h2; exact DataW.trod_lt m _ _ _ hm
  obtain ⟨l2, k2, z2, b2⟩ := open_in (j := 2) hsz rfl rfl h2
  obtain ⟨a3, len3, cap3, rfl⟩ := okWide_slice Try.underlying23 (hval 3 23 v3 rfl rfl)
  have lt3 : ∀ x ∈ p3, x.block < W.heap.size := by obtain ⟨m, hm⟩ := h3; exact DataW.trod_lt m _ _ _ hm
  obtain ⟨l3, rfl, k3, b3⟩ := open_bin (j := 3) hsz rfl rfl h3
  have hb : Rows.uptoBulk d1 + Rows.uptoBulk d2 ≤ 1048576 := by
    have := of_decide_eq_true hk
    simp only [List.cons_append, List.nil_append, List.append_nil, Rows.uptoBulkAll] at this
    omega
  have y1 := bulk_in h1 k1
  have y2 := bulk_in h2 k2
  clear hA0 hval0 hsz0 hsz
  refine (more_law a0 (wf64 w0) k1 k2 k3 (by omega) (fun c hc => by have := y1.2 c hc; omega) (by omega) (fun c hc => by have := y2.2 c hc; omega) b3).mono fun e W' ⟨he, hfr⟩ => ?_
  subst he
  have bel : Below W.heap.size W W' := hfr.below' fun _ h => h.elim
  exact ⟨_, rfl, _, _, _, [], _, [], hW', trodAll_mk1 (shut_bool Try.underlying4 _), (trodAll_cons_mk (shut_int Try.underlying3 w0) (trodAll_cons_mk (Below.trod laidOut (by kernel_rfl) (of_decide_eq_true (by kernel_rfl)) h1 bel lt1) (trodAll_cons_mk (Below.trod laidOut (by kernel_rfl) (of_decide_eq_true (by kernel_rfl)) h2 bel lt2) (trodAll_cons_mk (Below.trod laidOut (by kernel_rfl) (of_decide_eq_true (by kernel_rfl)) h3 bel lt3) trodAll_mk0)))), rfl, bel.frame _, fun h => by cases h⟩
theorem over : Rows.solveMoreUptoRow.holds Try.pinned (Rows.OpenSpec.upto Rows.solveMoreSpec) :=
  OpenClaim.holds_of_cond 5 Try.f5 rfl rfl rfl rfl rfl rfl rfl ⟨rfl, rfl, rfl, rfl, rfl⟩ rfl rfl rfl rfl rfl (by kernel_rfl) Try.func5 (by kernel_rfl)
    (of_decide_eq_true (by kernel_rfl)) (by unfold Func.isWrapper; first | (rw [if_pos (by decide +kernel)]; kernel_rfl) | (rw [if_neg (by decide +kernel)]; exact ⟨rfl, rfl⟩))
    (fun os started H enc _ F0 => by rw [OpenClaim.pre_of_none' rfl]; exact lifted os started H enc F0)
theorem proved : Rows.SolveMoreUptoSaid := over
end Go.Proofs.Ytcahhbcehnbdkaa.solveMore
namespace Go.Proofs.Ytcahhbcehnbdkaa
/-- The row, under a short name, for the claim. -/
theorem solveMoreUpto_holds : Rows.SolveMoreUptoSaid := solveMore.proved
#print axioms solveMoreUpto_holds
end Go.Proofs.Ytcahhbcehnbdkaa
