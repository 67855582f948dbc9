/- SolveNames holds: for every input the law returns true, and each argument reads behind the call as it read before. No condition. -/
import Derived.Test.YtcahhbcehnbdkaaZ63
import Derived.Test.YtcahhbcehnbdkaaZ64
import Derived.Test.YtcahhbcehnbdkaaRows
import Derived.Deep.Matrix
import Derived.Deep.Grids
import Derived.SizedLaws
import Derived.WalkKit
import Derived.ProofKit
import Derived.OpenShut
import Derived.ChangeOld
import Derived.Below
set_option linter.unusedVariables false
set_option linter.unusedSimpArgs false
/- Clauses come in before a search, as a law. -/
namespace Go.Proofs.Ytcahhbcehnbdkaa.Sv
open Go.RowKit Go.Proofs.YtcahhbcehnbdkaaW.PrintWords
section
variable {Φ : List (List Int)} {s : S} {n i : Nat}
/-- Before the search. -/
structure Ini (Φ : List (List Int)) (s : S) (n i : Nat) : Prop where
  run : Run Φ s n i []
  prf : s.proof = []
  head : s.head = 0
theorem Ini.new (m : Nat) (hm : m < 1073741824) : Ini [] (beginS m) (m + 1) 0 := by
  have hs := begin_still m hm (T := 0) (by omega)
  have hh : Hist (beginS m) (m + 1) [] := ⟨rfl, List.Pairwise.nil, fun k hk => (by cases hk), by simp [beginS], by simp [beginS], by simp [beginS], fun l hl => (by cases hl), fun l hl => (by cases hl), fun l hl => (by cases hl), fun t ht => absurd ht (Nat.not_lt_zero t), fun t ht => absurd ht (Nat.not_lt_zero t)⟩
  refine ⟨⟨?_, ⟨0, fun c hc => (by cases hc), Nat.zero_le _, fun x hx => (by cases hx)⟩, hh, fun j hj => absurd hj (Nat.not_lt_zero j), fun c hc => (by cases hc), fun c hc => (by cases hc), ?_, by simp [beginS], by simp [beginS], fun i hi => absurd hi (Nat.not_lt_zero i), by simp [beginS]⟩, rfl, rfl⟩
  rotate_left
  · show (m : Int) = ((m + 1 : Nat) : Int) - 1
    omega
  exact hs.ok.assuming fun l hl => by cases hl
theorem Ini.okN (h : Ini Φ s n i) : Ok Φ (fun _ => False) s n (2 * i) [] := by
  have := h.run.ok
  rw [h.prf, List.append_nil] at this
  exact this.assuming fun l hl => (this.sound l hl).mono (fun _ h => h) fun l ⟨q, q1, _⟩ => by cases q1
theorem Ini.srcN (h : Ini Φ s n i) : Src Φ s := by
  have := h.run.src
  rwa [h.prf, List.append_nil] at this
theorem Ini.pro (h : Ini Φ s n i) : Pro s s.head.toNat fun _ _ => False := fun j x y _ _ hx => by
  rw [h.head] at hx; simp at hx
/-- What it takes to be there again. -/
theorem Ini.mk' {c : List Int} {r : S} (h : Ini Φ s n i) (hc : ∀ l ∈ c, Lit n l ∧ l ≠ 0) (ok : Ok (Φ ++ [c]) (fun _ => False) r n (2 * (i + 1)) []) (hh : Hist r n []) (hs : Src (Φ ++ [c]) r) (hcov : Cov (Φ ++ [c]) r r.trail.length) (e1 : r.atoms = s.atoms) (e2 : r.active = s.active) (e3 : r.proof = s.proof) (e4 : r.head = s.head) (e5 : r.clauses.length ≤ s.clauses.length + 1) : Ini (Φ ++ [c]) r n (i + 1) := by
  have ep : r.proof = [] := e3.trans h.prf
  refine ⟨⟨?_, ⟨r.trail.length, hcov, Nat.le_refl _, fun x hx => by cases hx⟩, hh, ?_, fun d hd => ?_, fun d hd => ?_, e1.trans h.run.atm, by rw [e2]; exact h.run.act, ?_, fun j hj => ?_, ?_⟩, ep, e4.trans h.head⟩
  · rw [ep, List.append_nil]
    exact ok.assuming fun l hl => (ok.sound l hl).mono (fun _ h => h) fun _ h => h.elim
  · rw [ep, List.append_nil]; exact hs
  · rcases List.mem_append.1 hd with hd | hd
    · exact h.run.nz d hd
    · rw [List.mem_singleton.1 hd]; exact hc
  · rw [ep] at hd; cases hd
  · have := h.run.cls
    rw [h.prf] at this
    rw [ep]
    simp only [List.length_nil, Nat.add_zero] at this ⊢
    omega
  · rw [ep] at hj; cases hj
  · rw [ep]; simp
theorem Ini.skip (h : Ini Φ s n i) {c : List Int} (hc : ∀ l ∈ c, Lit n l ∧ l ≠ 0) (hi : i < 1000000) (hs : Taut c ∨ ∃ l ∈ c, l ∈ s.trail) : Ini (Φ ++ [c]) s n (i + 1) := by
  obtain ⟨k, k1, k2, _⟩ := h.run.cov
  refine h.mk' hc (((h.okN).more fun d hd => List.mem_append_left _ hd).room (by omega) (by omega)) h.run.hist (h.srcN.more fun d hd => List.mem_append_left _ hd) ((k1.mono k2).snoc (hs.imp id fun ⟨l, l1, l2⟩ => .inl ⟨l, l1, by rw [List.take_length]; exact l2⟩)) rfl rfl rfl rfl (Nat.le_succ _)
theorem Ini.add (h : Ini Φ s n i) {c own : List Int} (hc : ∀ l ∈ c, Lit n l ∧ l ≠ 0) (hi : i < 1000000) (hcl : cleanL c [] = some own) :
    ((addS s own).2 = true ∧ Ini (Φ ++ [c]) (addS s own).1 n (i + 1)) ∨ ((addS s own).2 = false ∧ (addS s own).1 = s ∧ Conf (Φ ++ [c]) fun _ => False) := by
  obtain ⟨hnd, hmem⟩ := clean_some hcl
  have hco : ∀ l ∈ own, Lit n l ∧ l ≠ 0 := fun l hl => hc l ((hmem l).1 hl)
  have hcin : c ∈ Φ ++ [c] := by simp
  have hmore : ∀ d ∈ Φ, d ∈ Φ ++ [c] := fun d hd => List.mem_append_left _ hd
  have hcls : s.clauses.length + 1 < 1099511627776 := by
    have := h.run.cls
    rw [h.prf] at this
    simp only [List.length_nil, Nat.add_zero] at this
    omega
  obtain ⟨k, k1, k2, _⟩ := h.run.cov
  have hcov := k1.mono k2
  have hok := h.okN.more hmore
  match own, hnd, hmem, hco with
  | [], _, hmem, _ =>
    right
    have e : c = [] := List.eq_nil_iff_forall_not_mem.2 fun l hl => by have := (hmem l).2 hl; cases this
    exact ⟨rfl, rfl, c, hcin, fun m hm => by rw [e] at hm; cases hm⟩
  | [l], _, hmem, hco =>
    obtain ⟨L0, Z0⟩ := hco l (by simp)
    have hlc : l ∈ c := (hmem l).1 (by simp)
    have hcl1 : ∀ m ∈ c, m = l := fun m hm => List.mem_singleton.1 ((hmem m).2 hm)
    have hs := ofv_small h.okN.good.value h.okN.good.small L0
    by_cases h0 : ofv s l = 0
    · left
      have eA : addS s [l] = (setS (withC s [l]) l s.clauses.length, decide (ofv (setS (withC s [l]) l s.clauses.length) l = 1)) := by
        simp only [addS]; rw [if_pos h0]
      have okw := hok.short (c := [l]) (fun x hx => by rw [List.mem_singleton.1 hx]; exact ⟨L0, Z0⟩) hcls (by simp) (by simp)
      have hone : ofv (setS (withC s [l]) l s.clauses.length) l = 1 := ofv_set_self (s := withC s [l]) (n := n) okw.good.value L0
      have hh0 : Hist (withC s [l]) n [] := h.run.hist.more (c := [l]) rfl rfl rfl rfl rfl rfl
      have ecl : cl (withC s [l]) (s.clauses.length : Int) = [l] := (cw_withC (s := s) [l] s.clauses.length).trans (if_pos rfl)
      have hh : Hist (setS (withC s [l]) l s.clauses.length) n [] := hh0.set L0 Z0 h0 fun _ => ⟨Int.natCast_nonneg _, by show s.clauses.length < _; rw [len_withC]; omega, by rw [ecl]; simp, fun m hm => by rw [ecl] at hm; exact .inl (List.mem_singleton.1 hm)⟩
      have hsr : Src (Φ ++ [c]) (setS (withC s [l]) l s.clauses.length) := (h.srcN.more hmore).snoc (c := [l]) (r := setS (withC s [l]) l s.clauses.length) ⟨c, hcin, fun x => (hmem x).symm⟩ rfl
      have okf := okw.setS (l := l) (r := (s.clauses.length : Int)) L0 Z0 h0 (.unit hcin hlc fun m hm hne => absurd (hcl1 m hm) hne)
      rw [eA]
      refine ⟨decide_eq_true hone, h.mk' hc (okf.room (by omega) (by omega)) hh hsr ?_ rfl rfl rfl rfl (by show (withC s [l]).clauses.length ≤ _; rw [len_withC]; exact Nat.le_refl _)⟩
      have hc2 : Cov Φ (setS (withC s [l]) l s.clauses.length) s.trail.length := Cov.ext (s := withC s [l]) (cov_withC _ hcov) (fun _ => ⟨.rfl, fun _ => .rfl⟩) (by
        show (s.trail ++ [l]).take s.trail.length = s.trail.take s.trail.length
        rw [List.take_append_of_le_length (Nat.le_refl _)])
      have htl : (setS (withC s [l]) l (s.clauses.length : Int)).trail = s.trail ++ [l] := rfl
      refine (hc2.mono (by rw [htl, List.length_append]; omega)).snoc (.inr (.inl ⟨l, hlc, ?_⟩))
      rw [List.take_length, htl]; simp
    · by_cases h1 : ofv s l = 1
      · left
        have eA : addS s [l] = (s, decide (ofv s l = 1)) := by simp only [addS]; rw [if_neg h0]
        rw [eA]
        exact ⟨decide_eq_true h1, h.skip hc hi (.inr ⟨l, hlc, h.okN.only l L0 Z0 h1⟩)⟩
      · right
        have eA : addS s [l] = (s, decide (ofv s l = 1)) := by simp only [addS]; rw [if_neg h0]
        rw [eA]
        refine ⟨decide_eq_false h1, rfl, c, hcin, fun m hm => ?_⟩
        rw [hcl1 m hm]
        exact (h.okN.sound _ ((h.okN.false_ L0 Z0).1 (by omega))).mono hmore fun _ h => h
  | c0 :: c1 :: r, hnd, hmem, hco =>
    left
    have hsrc' : ∃ d ∈ Φ ++ [c], ∀ x, x ∈ d ↔ x ∈ c0 :: c1 :: r := ⟨c, hcin, fun x => (hmem x).symm⟩
    have ok2 := hok.add2 (c0 := c0) (c1 := c1) (r := r) hco hcls (by omega) hnd hsrc' fun x hx => by cases hx
    refine ⟨rfl, h.mk' hc (r := add2 s c0 c1 r) (by have e : 2 * (i + 1) = 2 * i + 2 := by omega
                                                    rw [e]; exact ok2) (h.run.hist.more (c := c0 :: c1 :: r) rfl rfl rfl rfl rfl rfl) ((h.srcN.more hmore).snoc (c := c0 :: c1 :: r) (r := add2 s c0 c1 r) hsrc' rfl) ?_ rfl rfl rfl rfl (by show (withC s (c0 :: c1 :: r)).clauses.length ≤ _; rw [len_withC]; exact Nat.le_refl _)⟩
    refine Cov.snoc (cov_withC (c0 :: c1 :: r) hcov) (.inr (.inr ⟨s.clauses.length, (two_withC _ _).2 (.inr ⟨rfl, by simp⟩), fun x => ?_⟩))
    have e : cw (add2 s c0 c1 r) s.clauses.length = c0 :: c1 :: r := (cw_withC (s := s) _ _).trans (if_pos rfl)
    rw [show cw (withC s (c0 :: c1 :: r)) s.clauses.length = c0 :: c1 :: r from e]
    exact (hmem x).symm
end
end Go.Proofs.Ytcahhbcehnbdkaa.Sv

/- The walk of SolveChecks. -/
namespace Go.Proofs.Ytcahhbcehnbdkaa.Sv
open Go.RowKit Go.Proofs.YtcahhbcehnbdkaaW.PrintWords Go.Proofs.YtcahhbcehnbdkaaW.PrintLast Go.Proofs.Ytcahhbcehnbdkaa.Eng
section
variable {w w' : World} {v u : Value} {cs ps : List (List Int)} {bs : List Bool}
/-- Lengths within what a machine holds. -/
structure Sized (cs : List (List Int)) : Prop where
  n : cs.length < 5864062014805
  l : ∀ c ∈ cs, c.length < 17592186044416
theorem Sized.l62 (h : Sized cs) : ∀ c ∈ cs, c.length < 4611686018427387904 := fun c hc => by have := h.l c hc; omega
theorem Sized.n62 (h : Sized cs) : cs.length < 4611686018427387904 := by have := h.n; omega
theorem Fr.below' {F : Nat → Prop} (h : Fr F w w') (hF : ∀ k, F k → w.heap.size ≤ k) : Below w.heap.size w w' := ⟨h.os, h.tape, h.output, h.size, fun k hk => h.block k hk fun hf => by have := hF k hf; omega⟩
theorem Rws.go {B : Nat} (h : Rws w B v cs) (hf : Fr (fun _ => False) w w') : Rws w' B v cs := h.fr hf fun _ _ h => h
theorem BRow.mono {B B' : Nat} {v : Value} (h : BRow w B v bs) (hB : B ≤ B') : BRow w B' v bs := by
  obtain ⟨A, cap, rfl, h1⟩ := h
  refine ⟨A, cap, rfl, fun i hi => ?_⟩
  obtain ⟨ad, e1, e2, e3⟩ := h1 i hi
  exact ⟨ad, e1, by omega, e3⟩
theorem Fr.go {w1 w2 : World} (h : Fr (fun _ => False) w w1) (k : Fr (fun _ => False) w1 w2) : Fr (fun _ => False) w w2 := h.trans k fun _ h => h.elim
theorem p_eqlB {P : Program} {ρ : Env} {dst : Option Tmp} {ty : TypeId} {pos : String} {af : Array Edge} {gd : Option (Nat × Bool)} {x y : Operand} {t t' : TypeId} {m n b : Bool} (hx : ev ρ x = some (.bool m)) (hy : ev ρ y = some (.bool n)) (hu : P.underlying t = some .bool) (hr : decide (m = n) = b) : Pur P ρ ⟨dst, .binOp .eql t x y t', ty, pos, af, gd⟩ (.bool b) := fun w a ha => by
  subst hr
  have e : (m == n) = decide (m = n) := rfl
  have h1 : (Op.equalIn Op.maxDepth t (.bool m) (.bool n)).run P w = .ok (m == n) w := run_equalIn_bool w _ t m n hu
  simp [execOp, ha.ev hx, ha.ev hy, eqGuard, binOp, Op.equal, h1, e]
set_option maxHeartbeats 2000000 in
theorem checks_law {B : Nat} {u : Value} {A3 : Option Addr} {c3 : Nat} (a : Int) (ha : -9223372036854775808 ≤ a ∧ a < 9223372036854775808) (hB : B ≤ w.heap.size) (h1 : Rws w B v cs) (h2 : Rws w B u ps) (h3 : BRow w B (.slice A3 bs.length c3) bs) (s1 : Sized cs) (s2 : Sized ps) (h64 : ∀ c ∈ cs, Small64 c) (hbl : bs.length ≤ 140737488351232) :
    Calls Try.prog 3 #[.int .i64 a, v, u, .slice A3 bs.length c3] w fun e w' => e = .returned (.bool true) ∧ Fr (fun _ => False) w w' := by
  refine calls_of_FC (N := 65) (vs := [.int .i64 a, v, u, .slice A3 bs.length c3]) Try.func3 rfl Try.ntmps3 (Nat.le_of_ble_eq_true rfl) ?_
  have k1 := many_calls h1.p 1500 (by omega) s1.n62 s1.l62
  have k2 := many_calls h2.p 300 (by omega) s2.n62 s2.l62
  refine FC.seq (FC.region ?_)
  refine sg_ rfl rfl rfl ?_
  refine FL.nilK ?_
  refine FC.seq ?_
  cases c1 : manyV cs 1500 with
  | true =>
    rw [c1] at k1
    refine FC.seq (FC.region ?_)
    refine mv_ rfl rfl rfl ?_
    refine FL.call rfl rfl (p_call Try.func10 rfl rfl rfl) (k1) ?_
    rintro e_ w_ ⟨rfl, rfl⟩
    refine ⟨_, rfl, ?_⟩
    refine mv_ rfl rfl rfl ?_
    refine FL.off rfl rfl ?_
    refine FL.off rfl rfl ?_
    refine FL.pur rfl rfl (p_pick_t rfl rfl) ?_
    refine mv_ rfl rfl rfl ?_
    refine FL.off rfl rfl ?_
    refine FL.off rfl rfl ?_
    refine FL.off rfl rfl ?_
    refine FL.pur rfl rfl (p_pick_t rfl rfl) ?_
    refine FL.nilK ?_
    refine FC.cond_t rfl ?_
    refine FC.seq (FC.region ?_)
    refine sg_ rfl rfl rfl ?_
    refine FL.nilK ?_
    refine FC.ret ?_
    repeat with_reducible first | refine thn_ret ?_ | refine blk_ret ?_ | refine nog_ret ?_
    exact ret1 Try.results3 rfl ⟨rfl, Fr.refl _ _⟩
  | false =>
  rw [c1] at k1
  obtain ⟨n1, l1⟩ := many_no c1
  cases c2 : manyV ps 300 with
  | true =>
    rw [c2] at k2
    refine FC.seq (FC.region ?_)
    refine mv_ rfl rfl rfl ?_
    refine FL.call rfl rfl (p_call Try.func10 rfl rfl rfl) (k1) ?_
    rintro e_ w_ ⟨rfl, rfl⟩
    refine ⟨_, rfl, ?_⟩
    refine mv_ rfl rfl rfl ?_
    refine mv_ rfl rfl rfl ?_
    refine FL.call rfl rfl (p_call Try.func10 rfl rfl rfl) (k2) ?_
    rintro e_ w_ ⟨rfl, rfl⟩
    refine ⟨_, rfl, ?_⟩
    refine FL.pur rfl rfl (p_pick_f rfl rfl) ?_
    refine mv_ rfl rfl rfl ?_
    refine FL.off rfl rfl ?_
    refine FL.off rfl rfl ?_
    refine FL.off rfl rfl ?_
    refine FL.pur rfl rfl (p_pick_t rfl rfl) ?_
    refine FL.nilK ?_
    refine FC.cond_t rfl ?_
    refine FC.seq (FC.region ?_)
    refine sg_ rfl rfl rfl ?_
    refine FL.nilK ?_
    refine FC.ret ?_
    repeat with_reducible first | refine thn_ret ?_ | refine blk_ret ?_ | refine nog_ret ?_
    exact ret1 Try.results3 rfl ⟨rfl, Fr.refl _ _⟩
  | false =>
  rw [c2] at k2
  obtain ⟨n2, l2⟩ := many_no c2
  by_cases c4 : 5100 < bs.length
  · refine FC.seq (FC.region ?_)
    refine mv_ rfl rfl rfl ?_
    refine FL.call rfl rfl (p_call Try.func10 rfl rfl rfl) (k1) ?_
    rintro e_ w_ ⟨rfl, rfl⟩
    refine ⟨_, rfl, ?_⟩
    refine mv_ rfl rfl rfl ?_
    refine mv_ rfl rfl rfl ?_
    refine FL.call rfl rfl (p_call Try.func10 rfl rfl rfl) (k2) ?_
    rintro e_ w_ ⟨rfl, rfl⟩
    refine ⟨_, rfl, ?_⟩
    refine FL.pur rfl rfl (p_pick_f rfl rfl) ?_
    refine mv_ rfl rfl rfl ?_
    refine mv_ rfl rfl rfl ?_
    refine FL.pur rfl rfl (p_len rfl Try.underlying23) ?_
    refine FL.pur rfl rfl (p_gtr rfl rfl (decide_eq_true (by omega))) ?_
    refine FL.pur rfl rfl (p_pick_f rfl rfl) ?_
    refine FL.nilK ?_
    refine FC.cond_t rfl ?_
    refine FC.seq (FC.region ?_)
    refine sg_ rfl rfl rfl ?_
    refine FL.nilK ?_
    refine FC.ret ?_
    repeat with_reducible first | refine thn_ret ?_ | refine blk_ret ?_ | refine nog_ret ?_
    exact ret1 Try.results3 rfl ⟨rfl, Fr.refl _ _⟩
  refine FC.seq (FC.region ?_)
  refine mv_ rfl rfl rfl ?_
  refine FL.call rfl rfl (p_call Try.func10 rfl rfl rfl) (k1) ?_
  rintro e_ w_ ⟨rfl, rfl⟩
  refine ⟨_, rfl, ?_⟩
  refine mv_ rfl rfl rfl ?_
  refine mv_ rfl rfl rfl ?_
  refine FL.call rfl rfl (p_call Try.func10 rfl rfl rfl) (k2) ?_
  rintro e_ w_ ⟨rfl, rfl⟩
  refine ⟨_, rfl, ?_⟩
  refine FL.pur rfl rfl (p_pick_f rfl rfl) ?_
  refine mv_ rfl rfl rfl ?_
  refine mv_ rfl rfl rfl ?_
  refine FL.pur rfl rfl (p_len rfl Try.underlying23) ?_
  refine FL.pur rfl rfl (p_gtr rfl rfl (decide_eq_false (by omega))) ?_
  refine FL.pur rfl rfl (p_pick_f rfl rfl) ?_
  refine FL.nilK ?_
  refine FC.cond_f rfl (FC.skip (thn_normal ?_))
  have q1 : ∀ c ∈ cs, c.length < 1099511627776 := fun c hc => by have := l1 c hc; omega
  have q2 : ∀ c ∈ ps, c.length < 1099511627776 := fun c hc => by have := l2 c hc; omega
  refine FC.seq (FC.region ?_)
  refine mv_ rfl rfl rfl ?_
  refine FL.call rfl rfl (p_call Try.func11 rfl rfl rfl) (twin_calls (w := w) h1.p (fun k (hk : k < B) => by omega) (by omega) q1) ?_
  rintro e_ w_ ⟨t1, rfl, m1, b3⟩
  refine ⟨_, rfl, ?_⟩
  refine mv_ rfl rfl rfl ?_
  refine FL.call rfl rfl (p_call Try.func11 rfl rfl rfl) (twin_calls (h2.go b3).p (fun k (hk : k < B) => by have := b3.size; omega) (by omega) q2) ?_
  rintro e_ w_ ⟨t2, rfl, m2, b4⟩
  refine ⟨_, rfl, ?_⟩
  refine sg_ rfl rfl rfl ?_
  refine sg_ rfl rfl rfl ?_
  refine FL.nilK ?_
  obtain ⟨w4, hw4⟩ : ∃ w4, w4 = w_ := ⟨_, rfl⟩
  have m1 : Rws w4 w4.heap.size t1 cs := by rw [hw4]; exact (m1.rws.fr b4 fun _ _ h => h).rws
  have m2 : Rws w4 w4.heap.size t2 ps := by rw [hw4]; exact m2.rws.rws
  have B4 : Fr (fun _ => False) w w4 := by rw [hw4]; exact b3.go b4
  rw [← hw4]
  clear b3 b4
  have hB4 := B4.size
  have h1 := (h1.go B4).p.mono (Q := fun k => k < w4.heap.size) fun _ _ h => h
  have h2 := (h2.go B4).p.mono (Q := fun k => k < w4.heap.size) fun _ _ h => h
  have h3 := (h3.fr B4 fun _ _ h => h).mono (B' := w4.heap.size) (by omega)
  have k5 := check_calls a m1 (by omega) s1.l62
  have k6 := refcheck_calls h1 a ha (by omega) s1.l62
  have k7 := holds_calls m1 h3 (by omega) (fun c hc => ⟨s1.l62 c hc, h64 c hc⟩) (by omega)
  refine FC.seq (FC.region ?_)
  refine mv_ rfl rfl rfl ?_
  refine mv_ rfl rfl rfl ?_
  refine FL.call rfl rfl (p_call Try.func12 rfl rfl rfl) (k5) ?_
  rintro e_ w_ ⟨rfl, rfl⟩
  refine ⟨_, rfl, ?_⟩
  refine mv_ rfl rfl rfl ?_
  refine mv_ rfl rfl rfl ?_
  refine FL.call rfl rfl (p_call Try.func13 rfl rfl rfl) (k6) ?_
  rintro e_ w_ ⟨rfl, rfl⟩
  refine ⟨_, rfl, ?_⟩
  refine FL.pur rfl rfl (p_eql rfl rfl (decide_eq_true rfl)) ?_
  refine mv_ rfl rfl rfl ?_
  refine mv_ rfl rfl rfl ?_
  refine mv_ rfl rfl rfl ?_
  refine FL.call rfl rfl (p_call Try.func14 rfl rfl rfl) (k7) ?_
  rintro e_ w_ ⟨rfl, b7⟩
  refine ⟨_, rfl, ?_⟩
  refine mv_ rfl rfl rfl ?_
  refine mv_ rfl rfl rfl ?_
  refine FL.call rfl rfl (p_call Try.func15 rfl rfl rfl) (refholds_calls (Rws.go h1 b7) (h3.fr b7 fun _ _ h => h) (by omega) (fun c hc => ⟨s1.l62 c hc, h64 c hc⟩) (by omega)) ?_
  rintro e_ w_ ⟨rfl, rfl⟩
  refine ⟨_, rfl, ?_⟩
  refine FL.pur rfl rfl (p_eqlB rfl rfl Try.underlying4 (decide_eq_true rfl)) ?_
  refine FL.pur rfl rfl (p_pick_t rfl rfl) ?_
  refine mv_ rfl rfl rfl ?_
  refine mv_ rfl rfl rfl ?_
  refine mv_ rfl rfl rfl ?_
  refine mv_ rfl rfl rfl ?_
  refine FL.call rfl rfl (p_call Try.func16 rfl rfl rfl) (refutes_calls a (m1.go b7) (m2.go b7) b7.size (by omega) q1 (by omega) q2) ?_
  rintro e_ w_ ⟨⟨x1, rfl, y1⟩, b9⟩
  refine ⟨_, rfl, ?_⟩
  refine mv_ rfl rfl rfl ?_
  refine mv_ rfl rfl rfl ?_
  refine mv_ rfl rfl rfl ?_
  refine FL.call rfl rfl (p_call Try.func17 rfl rfl rfl) (refrefutes_calls a ha (RwsP.fr h1 (b7.go b9) fun _ _ h => h) (RwsP.fr h2 (b7.go b9) fun _ _ h => h) (fun k hk => Nat.lt_of_lt_of_le hk (b7.go b9).size) (by omega) s1.l62 (by omega) s2.l62) ?_
  rintro e_ w_ ⟨⟨x2, rfl, y2⟩, b10⟩
  refine ⟨_, rfl, ?_⟩
  refine FL.pur rfl rfl (p_eqlB rfl rfl Try.underlying4 (decide_eq_true (Bool.eq_iff_iff.2 (y1.trans y2.symm)))) ?_
  refine FL.pur rfl rfl (p_pick_t rfl rfl) ?_
  refine sg_ rfl rfl rfl ?_
  refine FL.nilK ?_
  have b10 := (b7.go b9).go b10
  clear b7 b9
  refine FC.seq (FC.region ?_)
  refine mv_ rfl rfl rfl ?_
  refine mv_ rfl rfl rfl ?_
  refine mv_ rfl rfl rfl ?_
  refine mv_ rfl rfl rfl ?_
  refine FL.call rfl rfl (p_call Try.func18 rfl rfl rfl) (same_calls (m1.go b10) (Rws.go h1 b10) (by omega) s1.l62) ?_
  rintro e_ w_ ⟨rfl, b11⟩
  refine ⟨_, rfl, ?_⟩
  refine FL.pur rfl rfl (p_pick_t rfl rfl) ?_
  refine mv_ rfl rfl rfl ?_
  refine mv_ rfl rfl rfl ?_
  refine mv_ rfl rfl rfl ?_
  refine FL.call rfl rfl (p_call Try.func18 rfl rfl rfl) (same_calls (m2.go (b10.go b11)) (Rws.go h2 (b10.go b11)) (by omega) s2.l62) ?_
  rintro e_ w_ ⟨rfl, b12⟩
  refine ⟨_, rfl, ?_⟩
  refine FL.pur rfl rfl (p_pick_t rfl rfl) ?_
  refine sg_ rfl rfl rfl ?_
  refine FL.nilK ?_
  refine FC.ret ?_
  repeat with_reducible first | refine thn_ret ?_ | refine blk_ret ?_ | refine nog_ret ?_
  exact ret1 Try.results3 rfl ⟨rfl, B4.go ((b10.go b11).go b12)⟩
end
end Go.Proofs.Ytcahhbcehnbdkaa.Sv

/- Walk of Solve. -/
namespace Go.Proofs.Ytcahhbcehnbdkaa.Sv
open Go.RowKit Go.Proofs.YtcahhbcehnbdkaaW.PrintWords Go.Proofs.YtcahhbcehnbdkaaW.PrintLast Go.Proofs.Ytcahhbcehnbdkaa.Eng
section
variable {w w1 w2 : World} {B : Nat} {cs : List (List Int)}
/-- What Solve answers. -/
def SolR (a : Int) (cs : List (List Int)) (limit : Int) (w' : World) (Pr : Nat → Prop) (ans : Int) (mv pv : Value) (err : Int) : Prop :=
  (((checkV a cs ≠ 0 ∧ err = checkV a cs) ∨ (checkV a cs = 0 ∧ limit < 0 ∧ err = 2)) ∧ ans = 0 ∧ mv = .slice none 0 0 ∧ pv = .slice none 0 0) ∨
  (checkV a cs = 0 ∧ 0 ≤ limit ∧ err = 0 ∧ OutR cs (a + 1).toNat (decide (a ≤ 14)) w' Pr ans mv pv)
theorem zs_all : (#[.int .u8 0, .slice none 0 0, .slice none 0 0] : Array Value).all (·.oneCell') = true := all3 rfl rfl rfl
set_option maxHeartbeats 4000000 in
theorem solve_calls {v : Value} (a limit : Int) (hcs : Rws w B v cs) (hB : B ≤ w.heap.size) (hl : cs.length < 4611686018427387904) (hll : ∀ c ∈ cs, c.length < 1099511627776) :
    Calls Try.prog 21 #[.int .i64 a, v, .int .i64 limit] w fun e w' => ∃ ans mv pv err, e = .returned (.tuple #[.agg #[.int .u8 ans, mv, pv], .int .i64 err]) ∧ SolR a cs limit w' (fun k => w.heap.size ≤ k) ans mv pv err ∧ Fr (fun _ => False) w w' := by
  have hcs' := hcs
  obtain ⟨A, cap, rfl, hc⟩ := hcs
  refine calls_of_FC (N := 52) (vs := [.int .i64 a, .slice A cs.length cap, .int .i64 limit]) Try.func21 rfl Try.ntmps21 (Nat.le_of_ble_eq_true rfl) ?_
  refine FC.seq (FC.region ?_)
  refine FL.val _ _ rfl rfl (p_allocA inf36_eq inf36_zero) ?_
  refine sg_ rfl rfl rfl ?_
  refine FL.nilK ?_
  obtain ⟨rb, hrb⟩ : ∃ rb, rb = w.heap.size := ⟨_, rfl⟩
  obtain ⟨w1, hw1⟩ : ∃ w1, w1 = w.alloc (.cells (Value.agg #[.int .u8 0, .slice none 0 0, .slice none 0 0]).cells 36) := ⟨_, rfl⟩
  have f1 : Fr (fun _ => False) w w1 := by rw [hw1]; exact (Fr.refl _ w).alloc _
  have g1 : w1.heap[rb]? = some (.cells #[.int .u8 0, .slice none 0 0, .slice none 0 0] 36 (0, 0)) := by rw [hw1, hrb]; exact heap_alloc_new w _
  have s1 : rb < w1.heap.size := (Array.getElem?_eq_some_iff.1 g1).1
  rw [← hw1, ← hrb]
  clear hw1
  have hcs1 := hcs'.go f1
  have kc := check_calls a hcs1 hl fun c hc => by have := hll c hc; omega
  -- an answer is stored, and handed back
  have fin : ∀ (w5 w6 : World) (ans : Int) (mv pv : Value) (err : Int), w6 = w5.setRow rb #[.int .u8 ans, mv, pv] → w5.heap[rb]? = some (.cells #[.int .u8 0, .slice none 0 0, .slice none 0 0] 36 (0, 0)) → Fr (fun _ => False) w w5 → SolR a cs limit w5 (fun k => w1.heap.size ≤ k) ans mv pv err →
      w6.heap[rb]? = some (.cells #[.int .u8 ans, mv, pv] 36 (0, 0)) ∧ Fr (fun _ => False) w w6 ∧ SolR a cs limit w6 (fun k => rb ≤ k) ans mv pv err := fun w5 w6 ans mv pv err e6 hg hf ho => by
    subst e6
    have f5 : Fr (fun k => k = rb) w5 (w5.setRow rb #[.int .u8 ans, mv, pv]) := (Fr.refl _ w5).setRow _ (.inl rfl)
    refine ⟨setRow_heap w5 rb _ _ 36 (0, 0) hg, hf.setRow _ (.inr (by omega)), ?_⟩
    rcases ho with ho | ⟨x1, x2, x3, ho⟩
    · exact .inl ho
    · refine .inr ⟨x1, x2, x3, ?_⟩
      rcases ho with ⟨e1, e2, bs, e3, e4, e5⟩ | ⟨e1, e2, ps, e3, e4, e5⟩ | ho
      · exact .inl ⟨e1, e2, bs, (e3.fr f5 fun k hk e => by omega).mono fun k hk _ => (by omega), e4, e5⟩
      · exact .inr (.inl ⟨e1, e2, ps, (e3.fr f5 fun k hk e => by omega).mono fun k hk _ => (by omega), e4, e5⟩)
      · exact .inr (.inr ho)
  refine FC.seq ?_
  refine FC.seq (FC.region ?_)
  refine mv_ rfl rfl rfl ?_
  refine mv_ rfl rfl rfl ?_
  refine FL.call rfl rfl (p_call Try.func12 rfl rfl rfl) (kc) ?_
  rintro e_ w_ ⟨rfl, rfl⟩
  refine ⟨_, rfl, ?_⟩
  refine sg_ rfl rfl rfl ?_
  refine FL.nilK ?_
  by_cases c1 : checkV a cs = 0
  rotate_left
  · refine FC.seq (FC.region ?_)
    refine mv_ rfl rfl rfl ?_
    refine FL.pur rfl rfl (p_neq rfl rfl (show _ = !true by simp [c1])) ?_
    refine FL.nilK ?_
    refine FC.cond_t rfl ?_
    refine FC.seq (FC.region ?_)
    refine FL.pur rfl rfl (p_build (parts := []) (fun a ha => rfl) built36e) ?_
    refine mv_ rfl rfl rfl ?_
    refine FL.sto _ rfl (p_storeA rfl rfl g1 inf36_size rfl zs_all) ?_
    refine sg_ rfl rfl rfl ?_
    refine FL.nilK ?_
    refine FC.ret ?_
    repeat with_reducible first | refine thn_ret ?_ | refine blk_ret ?_ | refine nog_ret ?_
    obtain ⟨z1, z2, z3⟩ := fin _ _ 0 (.slice none 0 0) (.slice none 0 0) (checkV a cs) rfl g1 f1 (.inl ⟨.inl ⟨c1, rfl⟩, rfl, rfl, rfl⟩)
    exact retC2 Try.results21 rfl rfl z1 Try.underlying36 rfl inf36_size ⟨0, _, _, _, rfl, z3, z2⟩
  refine FC.seq (FC.region ?_)
  refine mv_ rfl rfl rfl ?_
  refine FL.pur rfl rfl (p_neq rfl rfl (show _ = !false by simp [c1])) ?_
  refine FL.nilK ?_
  refine FC.cond_f rfl (FC.skip (thn_normal ?_))
  refine FC.seq ?_
  refine FC.seq (FC.region ?_)
  refine mv_ rfl rfl rfl ?_
  refine FL.pur rfl rfl (p_lss rfl rfl rfl) ?_
  refine FL.nilK ?_
  by_cases c2 : limit < 0
  · refine FC.cond_t (by rw [show decide (limit < 0) = true from decide_eq_true c2]; rfl) ?_
    refine FC.seq (FC.region ?_)
    refine FL.pur rfl rfl (p_build (parts := []) (fun a ha => rfl) built36e) ?_
    refine FL.sto _ rfl (p_storeA rfl rfl g1 inf36_size rfl zs_all) ?_
    refine sg_ rfl rfl rfl ?_
    refine FL.nilK ?_
    refine FC.ret ?_
    repeat with_reducible first | refine thn_ret ?_ | refine blk_ret ?_ | refine nog_ret ?_
    obtain ⟨z1, z2, z3⟩ := fin _ _ 0 (.slice none 0 0) (.slice none 0 0) 2 rfl g1 f1 (.inl ⟨.inr ⟨c1, c2, rfl⟩, rfl, rfl, rfl⟩)
    exact retC2 Try.results21 rfl rfl z1 Try.underlying36 rfl inf36_size ⟨0, _, _, _, rfl, z3, z2⟩
  refine FC.cond_f (by rw [show decide (limit < 0) = false from decide_eq_false c2]; rfl) (FC.skip (thn_normal ?_))
  obtain ⟨b1, b2, b3, b4⟩ := checkV_bad c1
  obtain ⟨m, rfl⟩ : ∃ m : Nat, a = m := ⟨a.toNat, by omega⟩
  have hn1 : (((m : Nat) : Int) + 1).toNat = m + 1 := by omega
  have lit : ∀ c ∈ cs, ∀ l ∈ c, Lit (m + 1) l ∧ l ≠ 0 := fun c hc l hl => by
    have := b4 c hc l hl
    exact ⟨⟨by omega, by omega⟩, this.1⟩
  refine FC.seq (FC.region ?_)
  refine mv_ rfl rfl rfl ?_
  refine FL.call rfl rfl (p_call Try.func30 rfl rfl rfl) (begin_calls w1 m (by omega)) ?_
  rintro e_ w_ ⟨g0, V0, rfl, hs, f2⟩
  refine ⟨_, rfl, ?_⟩
  refine sg_ rfl rfl rfl ?_
  refine FL.nilK ?_
  obtain ⟨w2, hw2⟩ : ∃ w2, w2 = w_ := ⟨_, rfl⟩
  rw [← hw2] at hs f2 ⊢
  clear hw2
  have g2 := (f2.block rb s1 fun h => h).trans g1
  have f2 := f1.go f2
  have hrbB : rb < w1.heap.size := s1
  have hgr : ∀ {V' : Lay} {w' : World}, Goes g0 V0 w2 V' w' → w'.heap[rb]? = some (.cells #[.int .u8 0, .slice none 0 0, .slice none 0 0] 36 (0, 0)) := fun hG => (hG.fr.block rb (Array.getElem?_eq_some_iff.1 g2).1 fun hk => by have := hs.ge hk; omega).trans g2
  have hFw : ∀ {V' : Lay} {w' : World}, Goes g0 V0 w2 V' w' → Fr (fun _ => False) w w' := fun hG => f2.trans hG.fr fun k hk => .inr (by have := hs.ge hk; have := f1.size; omega)
  -- a refutation is handed back
  have refd : ∀ {V' : Lay} {w4 wc : World} {pv : Value} {ps : List (List Int)}, Goes g0 V0 w2 V' wc → RwsC w4 (fun k => foot g0 V' k ∨ wc.heap.size ≤ k) pv ps → Fr (foot g0 V') wc w4 → RefSpec (m : Int) cs ps ∧ (∀ c ∈ ps, c.length < m + 1) →
      w4.heap[rb]? = some (.cells #[.int .u8 0, .slice none 0 0, .slice none 0 0] 36 (0, 0)) ∧ Fr (fun _ => False) w w4 ∧ SolR (m : Int) cs limit w4 (fun k => w1.heap.size ≤ k) 2 (.slice none 0 0) pv 0 := fun {V' w4 wc pv ps} hG hrw hf hspec => by
    have hsz : w2.heap.size ≤ wc.heap.size := hG.fr.size
    have hgeB : ∀ k, foot g0 V' k → w1.heap.size ≤ k := fun k hk => by
      rcases hG.sub k hk with h2 | h2
      · exact hs.ge h2
      · have := hs.lt (k := g0) (.inl rfl); have := hs.gB; omega
    have hw12 : w1.heap.size ≤ w2.heap.size := by have := hs.lt (k := g0) (.inl rfl); have := hs.gB; omega
    refine ⟨(hf.block rb (by omega) fun hk => by have := hgeB _ hk; omega).trans (hgr hG), (hFw hG).trans hf fun k hk => .inr (by have := hgeB k hk; have := f1.size; omega), .inr ⟨c1, by omega, rfl, .inr (.inl ⟨rfl, rfl, ps, hrw.mono fun k hk _ => ?_, ?_⟩)⟩⟩
    · exact hk.elim (hgeB k) fun h => by omega
    · rw [hn1, show (((m + 1 : Nat) : Int)) - 1 = (m : Int) by omega]; exact hspec
  refine FC.cut (σ := S × Lay) (fun _ => [(0, .int .i64 m), (2, .int .i64 limit), (6, .pointer (some ⟨rb, 0, none⟩)), (9, .pointer (some ⟨g0, 0, none⟩))]) (fun x w3 => Srch w3 w1.heap.size g0 x.1 x.2 ∧ Goes g0 V0 w2 x.2 w3 ∧ Ini cs x.1 (m + 1) cs.length) ?_ ?_
  · refine FC.seq (FC.region ?_)
    refine mv_ rfl rfl rfl ?_
    refine FL.pur rfl rfl (p_len rfl Try.underlying22) ?_
    refine mv_ rfl rfl rfl ?_
    refine FL.nilK ?_
    refine FC.block ?_
    refine FC.loop (σ := Nat × S × Lay) (fun x => [(0, .int .i64 m), (2, .int .i64 limit), (6, .pointer (some ⟨rb, 0, none⟩)), (9, .pointer (some ⟨g0, 0, none⟩)), (26, .slice A cs.length cap), (27, .int .i64 cs.length), (28, .int .i64 x.1)]) (fun x w3 => Srch w3 w1.heap.size g0 x.2.1 x.2.2 ∧ Goes g0 V0 w2 x.2.2 w3 ∧ Ini (cs.take x.1) x.2.1 (m + 1) x.1 ∧ x.1 ≤ cs.length) (fun x => cs.length - x.1) (0, beginS m, V0) ⟨hs, Goes.refl g0 V0 w2, by rw [List.take_zero]; exact Ini.new m (by omega), Nat.zero_le _⟩ ⟨rfl, rfl, rfl, rfl, rfl, rfl, rfl, trivial⟩ ?_
    rintro ⟨i, s, V⟩ w3 ⟨h3, G3, hI, hi⟩
    simp only at h3 G3 hI hi ⊢
    refine FC.seq (FC.region ?_)
    refine FL.pur rfl rfl (p_lss rfl rfl rfl) ?_
    refine FL.nilK ?_
    refine FC.seq ?_
    refine FC.cond (decide ((i : Int) < (cs.length : Int))) rfl (fun hcc => FC.skip (thn_normal ?_)) (fun hcc => FC.exit ?_)
    rotate_left
    · have hge : ¬ (i : Int) < (cs.length : Int) := of_decide_eq_false hcc
      have e : i = cs.length := by omega
      subst e
      rw [List.take_of_length_le (Nat.le_refl _)] at hI
      exact thn_exit (thn_exit (blk_exit ⟨(s, V), ⟨rfl, rfl, rfl, rfl, trivial⟩, h3, G3, hI⟩))
    have hlt : i < cs.length := by have := of_decide_eq_true hcc; omega
    obtain ⟨ad, u, rfl, hadB, hcu, hru⟩ := hc i hlt
    have hcu : w3.cell? (ad.add (i : Int).toNat) = some u := (hFw G3).cell hcu fun h => h
    have hru : Row w3 B u (cs.getD i []) := hru.fr (hFw G3) fun _ _ h => h
    have hd : cs.getD i [] ∈ cs := mem_getD hlt
    have hq := hll _ hd
    have hlitc := lit _ hd
    have htk : cs.take (i + 1) = cs.take i ++ [cs.getD i []] := take_snoc cs i hlt
    have hBw3 : B ≤ w3.heap.size := by have := (hFw G3).size; omega
    have kcl := clean_calls (n := m + 1) hru (fun l hl => (hlitc l hl).1) (by omega) hq hBw3
    refine FC.seq ?_
    refine FC.block ?_
    refine FC.seq (FC.region ?_)
    refine FL.pur rfl rfl (p_indexA rfl rfl Try.underlying22 inf41_eq inf41_size (by omega) (by omega)) ?_
    refine FL.val _ _ rfl rfl (p_load rfl Try.underlying41 rfl hcu) ?_
    refine sg_ rfl rfl rfl ?_
    refine FL.nilK ?_
    cases hcl : cleanL (cs.getD i []) [] with
    | none =>
      have kc2 : Calls Try.prog 32 #[u] w3 fun e w' => e = .returned (.tuple #[.slice none 0 0, .bool false]) ∧ Fr (fun _ => False) w3 w' := kcl.mono fun e w' ⟨hf, h⟩ => by
        rcases h with ⟨_, he⟩ | ⟨c, v', h2, _⟩
        · exact ⟨he, hf⟩
        · rw [hcl] at h2; cases h2
      refine FC.seq (FC.region ?_)
      refine mv_ rfl rfl rfl ?_
      refine FL.call rfl rfl (p_call Try.func32 rfl rfl rfl) (kc2) ?_
      rintro e_ w_ ⟨rfl, f4⟩
      refine ⟨_, rfl, ?_⟩
      refine mv_ rfl rfl rfl ?_
      refine FL.pur rfl rfl (p_extract rfl rfl) ?_
      refine FL.pur rfl rfl (p_extract rfl rfl) ?_
      refine sg_ rfl rfl rfl ?_
      refine sg_ rfl rfl rfl ?_
      refine FL.nilK ?_
      refine FC.seq (FC.region ?_)
      refine mv_ rfl rfl rfl ?_
      refine mv_ rfl rfl rfl ?_
      refine FL.off rfl rfl ?_
      refine FL.off rfl rfl ?_
      refine FL.off rfl rfl ?_
      refine FL.off rfl rfl ?_
      refine FL.pur rfl rfl (p_pick_f rfl rfl) ?_
      refine FL.nilK ?_
      refine FC.cond_f rfl (FC.skip ?_)
      refine blk_normal (thn_normal ?_)
      refine FC.region ?_
      refine FL.pur rfl rfl (p_add rfl rfl ((wr (by omega) (by omega)).trans (show (i : Int) + 1 = ((i + 1 : Nat) : Int) by omega))) ?_
      refine mv_ rfl rfl rfl ?_
      refine FL.nil ?_
      exact ⟨(i + 1, s, V), ⟨rfl, rfl, rfl, rfl, rfl, rfl, rfl, trivial⟩, ⟨h3.fr f4 fun _ h => h.elim, G3.next f4 fun _ h => h.elim, by rw [htk]; exact hI.skip hlitc (by omega) (.inl (clean_none hcl)), hlt⟩, by show cs.length - (i + 1) < cs.length - i; omega⟩
    | some own =>
      have kc2 : Calls Try.prog 32 #[u] w3 fun e w' => ∃ v', e = .returned (.tuple #[v', .bool true]) ∧ w'.ownsRow w3.heap.size 3 1 v' own.length (nums .i64 own) ∧ Fr (fun _ => False) w3 w' := kcl.mono fun e w' ⟨hf, h⟩ => by
        rcases h with ⟨h2, _⟩ | ⟨c, v', h2, he, ho⟩
        · rw [hcl] at h2; cases h2
        · rw [hcl] at h2; injection h2 with h2; subst h2; exact ⟨v', he, ho, hf⟩
      obtain ⟨_, hmem⟩ := clean_some hcl
      refine FC.seq (FC.region ?_)
      refine mv_ rfl rfl rfl ?_
      refine FL.call rfl rfl (p_call Try.func32 rfl rfl rfl) (kc2) ?_
      rintro e_ w_ ⟨v', rfl, ho, f4⟩
      refine ⟨_, rfl, ?_⟩
      refine mv_ rfl rfl rfl ?_
      refine FL.pur rfl rfl (p_extract rfl rfl) ?_
      refine FL.pur rfl rfl (p_extract rfl rfl) ?_
      refine sg_ rfl rfl rfl ?_
      refine sg_ rfl rfl rfl ?_
      refine FL.nilK ?_
      have h4 := h3.fr f4 fun _ h => h.elim
      have G4 := G3.next f4 fun _ h => h.elim
      have hO : Own w_ w1.heap.size g0 V v' own := ⟨ownsRow_base ho (by have := h3.lt (k := g0) (.inl rfl); have := h3.gB; omega), fun k hk hf => by have := (ho.lt k hk).1; have := h3.lt hf; omega⟩
      have hok := hI.okN
      have ka := add_calls h4 hok.good.fine hO (fun l hl => (hlitc l ((hmem l).1 hl)).1) fun l hl => by
        obtain ⟨q, q1, rfl⟩ := List.mem_iff_getElem.1 hl
        have := le_sum s.watch q
        rw [List.getD_eq_getElem?_getD, List.getElem?_eq_getElem q1] at this
        have := hok.good.ws
        simp only [Option.getD_some] at *
        omega
      rcases hI.add hlitc (by omega) hcl with ⟨e1, hI2⟩ | ⟨e1, e2, hconf⟩
      · rw [e1] at ka
        refine FC.seq (FC.region ?_)
        refine mv_ rfl rfl rfl ?_
        refine mv_ rfl rfl rfl ?_
        refine mv_ rfl rfl rfl ?_
        refine mv_ rfl rfl rfl ?_
        refine FL.call rfl rfl (p_call Try.func36 rfl rfl rfl) (ka) ?_
        rintro e_ w_ ⟨rfl, V5, h5, GX⟩
        refine ⟨_, rfl, ?_⟩
        refine FL.pur rfl rfl (p_not rfl) ?_
        refine FL.pur rfl rfl (p_pick_t rfl rfl) ?_
        refine FL.nilK ?_
        refine FC.cond_f rfl (FC.skip ?_)
        have G5 := G4.thenX GX fun k hk => by have := (ho.lt k hk).1; have := G3.fr.size; omega
        refine blk_normal (thn_normal ?_)
        refine FC.region ?_
        refine FL.pur rfl rfl (p_add rfl rfl ((wr (by omega) (by omega)).trans (show (i : Int) + 1 = ((i + 1 : Nat) : Int) by omega))) ?_
        refine mv_ rfl rfl rfl ?_
        refine FL.nil ?_
        exact ⟨(i + 1, (addS s own).1, V5), ⟨rfl, rfl, rfl, rfl, rfl, rfl, rfl, trivial⟩, ⟨h5, G5, by rw [htk]; exact hI2, hlt⟩, by show cs.length - (i + 1) < cs.length - i; omega⟩
      · rw [e1, e2] at ka
        refine FC.seq (FC.region ?_)
        refine mv_ rfl rfl rfl ?_
        refine mv_ rfl rfl rfl ?_
        refine mv_ rfl rfl rfl ?_
        refine mv_ rfl rfl rfl ?_
        refine FL.call rfl rfl (p_call Try.func36 rfl rfl rfl) (ka) ?_
        rintro e_ w_ ⟨rfl, V5, h5, GX⟩
        refine ⟨_, rfl, ?_⟩
        refine FL.pur rfl rfl (p_not rfl) ?_
        refine FL.pur rfl rfl (p_pick_t rfl rfl) ?_
        refine FL.nilK ?_
        have G5 := G4.thenX GX fun k hk => by have := (ho.lt k hk).1; have := G3.fr.size; omega
        refine FC.cond_t rfl ?_
        have hprf : s.proof ++ [[]] = [[]] := by rw [hI.prf]; rfl
        have hsp : RefSpec (m : Int) cs [[]] ∧ ∀ c ∈ ([[]] : List (List Int)), c.length < m + 1 := by
          refine ⟨⟨c1, by simp, ?_, by simp, by simp, fun j hj => ?_⟩, fun c hc => by rw [List.mem_singleton.1 hc]; simp⟩
          · unfold checkV
            rw [if_neg (by simp [longB]; omega), if_neg (by simp)]
          · have : j = 0 := by simpa using hj
            subst this
            right
            refine (show Conf cs (fun _ => False) from ?_).more (fun d hd => by simpa using hd) fun _ h => h.elim
            exact hconf.more (fun d hd => by rw [← htk] at hd; exact List.mem_of_mem_take hd) fun _ h => h
        refine FC.seq (FC.region ?_)
        refine mv_ rfl rfl rfl ?_
        refine FL.call rfl rfl (p_call Try.func41 rfl rfl rfl) (refuted_calls h5 (by rw [hI.prf]; simp)) ?_
        rintro e_ w_ ⟨pv, rfl, hrw, f6⟩
        refine ⟨_, rfl, ?_⟩
        rw [hprf] at hrw
        obtain ⟨y1, y2, y3⟩ := refd G5 hrw f6 hsp
        have hpv1 : pv.oneCell' = true := by { obtain ⟨⟨A', c', rfl, _⟩, _⟩ := hrw; rfl }
        refine FL.sto _ rfl (p_storeA rfl rfl y1 inf36_size rfl (all3 rfl rfl hpv1)) ?_
        refine sg_ rfl rfl rfl ?_
        refine FL.nilK ?_
        refine FC.ret ?_
        repeat with_reducible first | refine thn_ret ?_ | refine blk_ret ?_ | refine nog_ret ?_
        obtain ⟨z1, z2, z3⟩ := fin _ _ 2 (.slice none 0 0) pv 0 rfl y1 y2 y3
        exact retC2 Try.results21 rfl rfl z1 Try.underlying36 rfl inf36_size ⟨2, _, pv, 0, rfl, z3, z2⟩
  rintro ⟨s, V⟩ w3 ⟨h3, G3, hI⟩
  simp only at h3 G3 hI ⊢
  have kr := run_calls (Φ0 := cs) (n := m + 1) (N0 := cs.length) h3 hI.run hI.pro hI.prf limit (decide ((m : Int) ≤ 14)) (fun h => by have := of_decide_eq_true h; omega) b3 (by omega) (by omega) (by rw [show (((m + 1 : Nat) : Int)) - 1 = (m : Int) by omega]; exact c1)
  refine FC.seq (FC.region ?_)
  refine mv_ rfl rfl rfl ?_
  refine mv_ rfl rfl rfl ?_
  refine mv_ rfl rfl rfl ?_
  refine FL.pur rfl rfl (p_leq rfl rfl rfl) ?_
  refine FL.call rfl rfl (p_call Try.func42 rfl rfl rfl) (kr) ?_
  rintro e_ w_ ⟨ans, mv, pv, rfl, hout, f4⟩
  refine ⟨_, rfl, ?_⟩
  have hgeB : ∀ k, foot g0 V k → w1.heap.size ≤ k := fun k hk => h3.ge hk
  have hw13 : w1.heap.size ≤ w3.heap.size := (by have := h3.lt (k := g0) (.inl rfl); have := h3.gB; omega)
  have y1 := (f4.block rb (by omega) fun hk => by have := hgeB _ hk; omega).trans (hgr G3)
  have y2 := (hFw G3).trans f4 fun k hk => .inr (by have := hgeB k hk; have := f1.size; omega)
  have y3 : SolR (m : Int) cs limit w_ (fun k => w1.heap.size ≤ k) ans mv pv 0 := .inr ⟨c1, by omega, rfl, by rw [hn1]; exact hout⟩
  have hone : mv.oneCell' = true ∧ pv.oneCell' = true := by { rcases hout with ⟨_, rfl, bs, ⟨A', c', rfl, _⟩, _⟩ | ⟨_, rfl, ps, ⟨⟨A', c', rfl, _⟩, _⟩, _⟩ | ⟨_, _, rfl, rfl⟩ <;> exact ⟨rfl, rfl⟩ }
  refine FL.sto _ rfl (p_storeA rfl rfl y1 inf36_size rfl (all3 rfl hone.1 hone.2)) ?_
  refine sg_ rfl rfl rfl ?_
  refine FL.nilK ?_
  refine FC.ret ?_
  repeat with_reducible first | refine thn_ret ?_ | refine blk_ret ?_ | refine nog_ret ?_
  obtain ⟨z1, z2, z3⟩ := fin _ _ ans mv pv 0 rfl y1 y2 y3
  exact retC2 Try.results21 rfl rfl z1 Try.underlying36 rfl inf36_size ⟨ans, mv, pv, 0, rfl, z3, z2⟩
end
end Go.Proofs.Ytcahhbcehnbdkaa.Sv

/- What holds of answers; rows that are written down; three, large. -/
namespace Go.Proofs.Ytcahhbcehnbdkaa.Sv
open Go.RowKit Go.Proofs.YtcahhbcehnbdkaaW.PrintWords Go.Proofs.YtcahhbcehnbdkaaW.PrintLast Go.Proofs.Ytcahhbcehnbdkaa.Eng
section
variable {cs ps Φ : List (List Int)} {bs : List Bool} {A : Int → Prop} {a : Int}
/-- A model: every clause holds by it. -/
def Sat (cs : List (List Int)) (bs : List Bool) : Prop := (cs.all fun c => c.any (isB bs)) = true
instance : Decidable (Sat cs bs) := inferInstanceAs (Decidable (_ = true))
theorem Sat.at (h : Sat cs bs) {c : List Int} (hc : c ∈ cs) : ∃ l ∈ c, isB bs l = true := by
  have := List.all_eq_true.1 h c hc
  simpa using this
theorem sat_of (h : ∀ c ∈ cs, ∃ l ∈ c, isB bs l = true) : Sat cs bs := List.all_eq_true.2 fun c hc => by simpa using h c hc
theorem isB_neg {l : Int} (h : isB bs l = true) : isB bs (-l) = false := by
  unfold isB at *
  by_cases h1 : 0 < l ∧ l ≤ bs.length
  · rw [if_pos h1] at h
    rw [if_neg (by omega), if_pos (by omega), show - -l - 1 = l - 1 by omega, h]; rfl
  · rw [if_neg h1] at h
    by_cases h2 : l < 0 ∧ -(bs.length : Int) ≤ l
    · rw [if_pos h2] at h
      rw [if_pos (by omega)]
      simpa using h
    · rw [if_neg h2] at h; cases h
theorem isB_or {l : Int} (h0 : l ≠ 0) (h1 : -(bs.length : Int) ≤ l) (h2 : l ≤ bs.length) (h : isB bs l = false) : isB bs (-l) = true := by
  unfold isB at *
  by_cases h3 : 0 < l ∧ l ≤ bs.length
  · rw [if_pos h3] at h
    rw [if_neg (by omega), if_pos (by omega), show - -l - 1 = l - 1 by omega, h]; rfl
  · rw [if_neg h3, if_pos (by omega)] at h
    rw [if_pos (by omega)]
    simpa using h
theorem D.sound (hm : Sat Φ bs) (hA : ∀ l, A l → isB bs l = true) {l : Int} (h : D Φ A l) : isB bs l = true := by
  induction h with
  | base h => exact hA _ h
  | @unit c l h1 h2 h3 ih =>
    obtain ⟨m, m1, m2⟩ := hm.at h1
    by_cases e : m = l
    · rw [← e]; exact m2
    · have h4 := ih m m1 e
      have h5 := isB_neg h4
      rw [Int.neg_neg, m2] at h5
      cases h5
theorem Conf.sound (hm : Sat Φ bs) (hA : ∀ l, A l → isB bs l = true) : ¬ Conf Φ A := fun ⟨c, h1, h2⟩ => by
  obtain ⟨m, m1, m2⟩ := hm.at h1
  have h5 := isB_neg (D.sound hm hA (h2 m m1))
  rw [Int.neg_neg, m2] at h5
  cases h5
/-- Steps that follow hold by each model. -/
theorem steps_sat (hn : (bs.length : Int) = a) (hm : Sat cs bs) (hp : checkV a ps = 0) (h : ∀ i, i < ps.length → Taut (ps.getD i []) ∨ Conf (cs ++ ps.take i) fun l => -l ∈ ps.getD i []) : Sat ps bs := by
  have hb := (checkV_bad hp).2.2.2
  have key : ∀ k, k ≤ ps.length → Sat (ps.take k) bs := fun k => by
    induction k with
    | zero => intro _; rw [List.take_zero]; rfl
    | succ k ih =>
      intro hk
      have ih := ih (by omega)
      have hmem : ps.getD k [] ∈ ps := mem_getD (by omega)
      have hall : Sat (cs ++ ps.take k) bs := by
        unfold Sat at *
        rw [List.all_append, hm, ih]; rfl
      have : ∃ l ∈ ps.getD k [], isB bs l = true := by
        apply Classical.byContradiction
        intro hno
        have hno : ∀ l ∈ ps.getD k [], isB bs l = false := fun l hl => by
          cases e : isB bs l with
          | false => rfl
          | true => exact absurd ⟨l, hl, e⟩ hno
        have htot : ∀ l ∈ ps.getD k [], isB bs (-l) = true := fun l hl => by
          have := hb _ hmem l hl
          exact isB_or this.1 (by omega) (by omega) (hno l hl)
        rcases h k (by omega) with ⟨l, h1, h2⟩ | h1
        · have := htot l h1
          rw [hno _ h2] at this; cases this
        · exact Conf.sound hall (fun l hl => by
            have := htot _ hl
            rwa [Int.neg_neg] at this) h1
      rw [take_snoc ps k (by omega)]
      unfold Sat at *
      rw [List.all_append, ih]
      simpa using this
  have := key ps.length (Nat.le_refl _)
  rwa [List.take_of_length_le (Nat.le_refl _)] at this
theorem RefSpec.none (h : RefSpec a cs ps) (hn : (bs.length : Int) = a) : ¬ Sat cs bs := fun hm => by
  obtain ⟨_, _, h3, h4, h5, h6⟩ := h
  obtain ⟨l, hl, _⟩ := (steps_sat hn hm h3 h6).at (mem_getD (d := []) (show ps.length - 1 < ps.length by omega))
  have e := List.length_eq_zero_iff.1 h5
  rw [e] at hl
  cases hl
def exThree : List (List Int) := [[1, 2], [-1, 2], [1, -2]]
def exFour : List (List Int) := exThree ++ [[-1, -2]]
theorem three_sat : Sat exThree [true, true] := by decide
theorem four_unsat : ∀ bs : List Bool, bs.length = 2 → ¬ Sat exFour bs
  | [x, y], _ => by cases x <;> cases y <;> decide
theorem three_model : ∀ bs : List Bool, bs.length = 2 → Sat exThree bs → bs = [true, true]
  | [x, y], _, h => by cases x <;> cases y <;> first | rfl | exact absurd h (by decide)
theorem four_ref : RefSpec 2 exFour [[2], []] := by
  refine ⟨by decide, by decide, by decide, by decide, rfl, fun i hi => .inr ?_⟩
  have hi : i < 2 := hi
  rcases (show i = 0 ∨ i = 1 by omega) with rfl | rfl
  · have h2 : D (exFour ++ ([[2], []] : List (List Int)).take 0) (fun l => -l ∈ (([[2], []] : List (List Int)).getD 0 [])) (-2) := .base (by decide)
    have h1 : D (exFour ++ ([[2], []] : List (List Int)).take 0) (fun l => -l ∈ (([[2], []] : List (List Int)).getD 0 [])) 1 := .unit (c := [1, 2]) (by decide) (by decide) fun m hm hne => by
      simp at hm
      rcases hm with rfl | rfl
      · exact absurd rfl hne
      · exact h2
    exact ⟨[-1, 2], by decide, fun m hm => by
      simp at hm
      rcases hm with rfl | rfl
      · exact h1
      · exact h2⟩
  · have h2 : D (exFour ++ ([[2], []] : List (List Int)).take 1) (fun l => -l ∈ (([[2], []] : List (List Int)).getD 1 [])) 2 := .unit (c := [2]) (by decide) (by decide) fun m hm hne => by
      simp at hm
      exact absurd hm hne
    have h1 : D (exFour ++ ([[2], []] : List (List Int)).take 1) (fun l => -l ∈ (([[2], []] : List (List Int)).getD 1 [])) 1 := .unit (c := [1, -2]) (by decide) (by decide) fun m hm hne => by
      simp at hm
      rcases hm with rfl | rfl
      · exact absurd rfl hne
      · exact h2
    exact ⟨[-1, -2], by decide, fun m hm => by
      simp at hm
      rcases hm with rfl | rfl
      · exact h1
      · exact h2⟩
end
section
variable {P : Program} {ρ : Env} {dst : Option Tmp} {ty : TypeId} {pos : String} {af : Array Edge} {gd : Option (Nat × Bool)} {x y z : Operand} {t e : TypeId} {w w' : World} {B b : Nat} {inf : TypeInfo} {zv v u s : Value}
theorem p_build2 (hx : ev ρ x = some v) (hy : ev ρ y = some u) (hu : P.underlying t = some (.slice e)) (hi : P.info? e = some inf) (hs : (inf.size == 1) = true) (hz : inf.zero = some zv) (hzc : (zv.cells.size == 1) = true) (hv : v.cells = #[v]) (hw : u.cells = #[u]) :
    Val P ρ ⟨dst, .buildSlice t 2 #[(0, x), (1, y)], ty, pos, af, gd⟩ w (.slice (some ⟨w.heap.size, 0, none⟩) 2 2) (w.alloc (.cells #[v, u] e)) := fun a ha => by
  have hs' : inf.size = 1 := by simpa using hs
  have hz' : zv.cells.size = 1 := by simpa using hzc
  have h1 : (Array.range 2).map (fun q => zv.cells[q % zv.cells.size]!) = #[zv.cells[0]!, zv.cells[0]!] := by
    have : Array.range 2 = #[0, 1] := by decide
    rw [this]; simp [hz', Nat.mod_one]
  simp [execOp, Instr.buildSlice, run_underlying hu, sizeOf, typeInfo, hi, hs', zeroValue, hz, ha.ev hx, ha.ev hy, h1, Instr.fill, hv, hw, newRow, newObj, Sem.run, World.alloc_eq]
theorem p_build3 (hx : ev ρ x = some v) (hy : ev ρ y = some u) (hq : ev ρ z = some s) (hu : P.underlying t = some (.slice e)) (hi : P.info? e = some inf) (hs : (inf.size == 1) = true) (hz : inf.zero = some zv) (hzc : (zv.cells.size == 1) = true) (hv : v.cells = #[v]) (hw : u.cells = #[u]) (hss : s.cells = #[s]) :
    Val P ρ ⟨dst, .buildSlice t 3 #[(0, x), (1, y), (2, z)], ty, pos, af, gd⟩ w (.slice (some ⟨w.heap.size, 0, none⟩) 3 3) (w.alloc (.cells #[v, u, s] e)) := fun a ha => by
  have hs' : inf.size = 1 := by simpa using hs
  have hz' : zv.cells.size = 1 := by simpa using hzc
  have h1 : (Array.range 3).map (fun q => zv.cells[q % zv.cells.size]!) = #[zv.cells[0]!, zv.cells[0]!, zv.cells[0]!] := by
    have : Array.range 3 = #[0, 1, 2] := by decide
    rw [this]; simp [hz', Nat.mod_one]
  simp [execOp, Instr.buildSlice, run_underlying hu, sizeOf, typeInfo, hi, hs', zeroValue, hz, ha.ev hx, ha.ev hy, ha.ev hq, h1, Instr.fill, hv, hw, hss, newRow, newObj, Sem.run, World.alloc_eq]
theorem own_lit (w : World) (e : TypeId) (vs : Array Value) (hB : B ≤ w.heap.size) (hs : vs.size ≤ 9223372036854775807) : (w.alloc (.cells vs e)).ownsRow B e 1 (.slice (some ⟨w.heap.size, 0, none⟩) vs.size vs.size) vs.size vs.toList :=
  ⟨by simp, .inr ⟨w.heap.size, vs.size, vs, rfl, hB, heap_alloc_new w _, Nat.le_refl _, hs, by simp, by rw [Nat.mul_one, List.take_of_length_le (by simp)]⟩⟩
theorem rowP_lit {P : Nat → Prop} {c : List Int} (h : w.heap[b]? = some (.cells (nums .i64 c).toArray 3 (0, 0))) (hP : P b) : RowP w P (.slice (some ⟨b, 0, none⟩) c.length c.length) c := by
  refine ⟨_, _, rfl, fun i hi => ⟨_, rfl, hP, ?_⟩⟩
  have : (nums .i64 c).toArray[i]? = some (.int .i64 (g c i)) := by simp [nums, g, List.getElem?_eq_getElem hi]
  have e : (⟨b, 0, none⟩ : Addr).add i = ⟨b, i, none⟩ := by unfold Addr.add; split <;> simp_all
  rw [e]
  simp only [World.cell?, h]
  simpa using this
end
end Go.Proofs.Ytcahhbcehnbdkaa.Sv

/- Walks of three, large, right, alive. -/
namespace Go.Proofs.Ytcahhbcehnbdkaa.Sv
open Go.RowKit Go.Proofs.YtcahhbcehnbdkaaW.PrintWords Go.Proofs.YtcahhbcehnbdkaaW.PrintLast Go.Proofs.Ytcahhbcehnbdkaa.Eng
section
variable {w w' : World} {B b : Nat} {P : Nat → Prop} {v u : Value} {cs ps : List (List Int)} {bs : List Bool}
theorem cell_row {cells : Array Value} {t : TypeId} {i : Nat} (h : w.heap[b]? = some (.cells cells t (0, 0))) (hi : cells[i]? = some u) : w.cell? ⟨b, i, none⟩ = some u := by
  simp only [World.cell?, h]
  simpa using hi
theorem three_calls (w : World) : Calls Try.prog 23 #[] w fun e w' => ∃ v, e = .returned v ∧ AllRow w' w.heap.size (fun k => w.heap.size ≤ k) v exThree ∧ Fr (fun _ => False) w w' := by
  refine calls_of_FC (N := 5) (vs := []) Try.func23 rfl Try.ntmps23 (Nat.le_of_ble_eq_true rfl) ?_
  refine FC.seq (FC.region ?_)
  refine sg_ rfl rfl rfl ?_
  refine FL.nilK ?_
  refine FC.seq (FC.region ?_)
  refine FL.val _ _ rfl rfl (p_build2 rfl rfl Try.underlying41 inf3_eq inf3_size inf3_zero rfl rfl rfl) ?_
  refine FL.val _ _ rfl rfl (p_build2 rfl rfl Try.underlying41 inf3_eq inf3_size inf3_zero rfl rfl rfl) ?_
  refine FL.val _ _ rfl rfl (p_build2 rfl rfl Try.underlying41 inf3_eq inf3_size inf3_zero rfl rfl rfl) ?_
  refine FL.val _ _ rfl rfl (p_build3 rfl rfl rfl Try.underlying22 inf41_eq inf41_size inf41_zero rfl rfl rfl rfl) ?_
  refine sg_ rfl rfl rfl ?_
  refine FL.nilK ?_
  refine FC.ret ?_
  repeat with_reducible first | refine thn_ret ?_ | refine blk_ret ?_ | refine nog_ret ?_
  refine ret1 Try.results23 rfl ⟨_, rfl, ?_, (((Fr.refl _ w).alloc _).alloc _).alloc _ |>.alloc _⟩
  obtain ⟨w1, hw1⟩ : ∃ w1, w1 = w.alloc (.cells #[.int .i64 1, .int .i64 2] 3) := ⟨_, rfl⟩
  have r1 : RowP w1 (fun k => w.heap.size ≤ k) (.slice (some ⟨w.heap.size, 0, none⟩) 2 2) [1, 2] := rowP_lit (w := w1) (b := w.heap.size) (c := [1, 2]) (by rw [hw1]; exact heap_alloc_new w _) (Nat.le_refl _)
  have s1 : w.heap.size ≤ w1.heap.size := by rw [hw1]; exact ((Fr.refl (fun _ => False) w).alloc _).size
  rw [← hw1]
  obtain ⟨w2, hw2⟩ : ∃ w2, w2 = w1.alloc (.cells #[.int .i64 (-1), .int .i64 2] 3) := ⟨_, rfl⟩
  have f2 : Fr (fun _ => False) w1 w2 := by rw [hw2]; exact (Fr.refl _ _).alloc _
  have r2 : RowP w2 (fun k => w.heap.size ≤ k) (.slice (some ⟨w1.heap.size, 0, none⟩) 2 2) [-1, 2] := rowP_lit (w := w2) (b := w1.heap.size) (c := [-1, 2]) (by rw [hw2]; exact heap_alloc_new w1 _) s1
  rw [← hw2]
  obtain ⟨w3, hw3⟩ : ∃ w3, w3 = w2.alloc (.cells #[.int .i64 1, .int .i64 (-2)] 3) := ⟨_, rfl⟩
  have f3 : Fr (fun _ => False) w2 w3 := by rw [hw3]; exact (Fr.refl _ _).alloc _
  have r3 : RowP w3 (fun k => w.heap.size ≤ k) (.slice (some ⟨w2.heap.size, 0, none⟩) 2 2) [1, -2] := rowP_lit (w := w3) (b := w2.heap.size) (c := [1, -2]) (by rw [hw3]; exact heap_alloc_new w2 _) (by have := f2.size; omega)
  rw [← hw3]
  have r2 := r2.fr f3 fun _ _ h => h
  have r1 := (r1.fr f2 fun _ _ h => h).fr f3 fun _ _ h => h
  have s3 : w.heap.size ≤ w3.heap.size := by have := f2.size; have := f3.size; omega
  have f4 : ∀ o, Fr (fun _ => False) w3 (w3.alloc o) := fun o => (Fr.refl _ _).alloc o
  have up : ∀ {u c} o, RowP w3 (fun k => w.heap.size ≤ k) u c → RowP (w3.alloc o) (fun k => w.heap.size ≤ k ∧ ¬ (some w3.heap.size = some k)) u c := fun o h =>
    ((h.mono (Q := fun k => w.heap.size ≤ k ∧ k < w3.heap.size) fun k hk hl => ⟨hk, hl⟩).fr (f4 o) fun _ _ h => h).mono fun k hk _ => ⟨hk.1, fun e => by injection e with e; omega⟩
  refine ⟨[_, _, _], own_lit w3 41 #[_, _, _] s3 (by simp), fun i hi => ?_⟩
  have hi : i < 3 := hi
  rcases (show i = 0 ∨ i = 1 ∨ i = 2 by omega) with rfl | rfl | rfl
  · exact ⟨_, rfl, up _ r1⟩
  · exact ⟨_, rfl, up _ r2⟩
  · exact ⟨_, rfl, up _ r3⟩
/-- More than the laws look at. -/
def largeV (a : Int) (cs : List (List Int)) : Bool := decide (a < 0) || decide (24 < a) || decide (120 < cs.length) || manyV cs 500
theorem large_no {a : Int} (h : largeV a cs = false) : 0 ≤ a ∧ a ≤ 24 ∧ cs.length ≤ 120 ∧ manyV cs 500 = false := by
  simp only [largeV, Bool.or_eq_false_iff, decide_eq_false_iff_not] at h
  exact ⟨by omega, by omega, by omega, h.2⟩
theorem large_calls (a : Int) (h : RwsP w P v cs) (hn : cs.length < 4611686018427387904) (hl : ∀ c ∈ cs, c.length < 4611686018427387904) : Calls Try.prog 20 #[.int .i64 a, v] w fun e w' => e = .returned (.bool (largeV a cs)) ∧ w = w' := by
  have km := many_calls h 500 (by omega) hn hl
  obtain ⟨A, cap, rfl, _⟩ := h
  refine calls_of_FC (N := 20) (vs := [.int .i64 a, .slice A cs.length cap]) Try.func20 rfl Try.ntmps20 (Nat.le_of_ble_eq_true rfl) ?_
  refine FC.seq (FC.region ?_)
  refine sg_ rfl rfl rfl ?_
  refine FL.nilK ?_
  by_cases h1 : a < 0
  · refine FC.seq (FC.region ?_)
    refine mv_ rfl rfl rfl ?_
    refine FL.pur rfl rfl (p_lss rfl rfl (decide_eq_true h1)) ?_
    refine mv_ rfl rfl rfl ?_
    refine FL.off rfl rfl ?_
    refine FL.off rfl rfl ?_
    refine FL.pur rfl rfl (p_pick_t rfl rfl) ?_
    refine mv_ rfl rfl rfl ?_
    refine FL.off rfl rfl ?_
    refine FL.off rfl rfl ?_
    refine FL.off rfl rfl ?_
    refine FL.pur rfl rfl (p_pick_t rfl rfl) ?_
    refine mv_ rfl rfl rfl ?_
    refine FL.off rfl rfl ?_
    refine FL.off rfl rfl ?_
    refine FL.pur rfl rfl (p_pick_t rfl rfl) ?_
    refine sg_ rfl rfl rfl ?_
    refine FL.nilK ?_
    refine FC.ret ?_
    repeat with_reducible first | refine thn_ret ?_ | refine blk_ret ?_ | refine nog_ret ?_
    exact ret1 Try.results20 rfl ⟨by unfold largeV; rw [decide_eq_true h1]; rfl, rfl⟩
  by_cases h2 : 24 < a
  · refine FC.seq (FC.region ?_)
    refine mv_ rfl rfl rfl ?_
    refine FL.pur rfl rfl (p_lss rfl rfl (decide_eq_false h1)) ?_
    refine mv_ rfl rfl rfl ?_
    refine mv_ rfl rfl rfl ?_
    refine FL.pur rfl rfl (p_gtr rfl rfl (decide_eq_true h2)) ?_
    refine FL.pur rfl rfl (p_pick_f rfl rfl) ?_
    refine mv_ rfl rfl rfl ?_
    refine FL.off rfl rfl ?_
    refine FL.off rfl rfl ?_
    refine FL.off rfl rfl ?_
    refine FL.pur rfl rfl (p_pick_t rfl rfl) ?_
    refine mv_ rfl rfl rfl ?_
    refine FL.off rfl rfl ?_
    refine FL.off rfl rfl ?_
    refine FL.pur rfl rfl (p_pick_t rfl rfl) ?_
    refine sg_ rfl rfl rfl ?_
    refine FL.nilK ?_
    refine FC.ret ?_
    repeat with_reducible first | refine thn_ret ?_ | refine blk_ret ?_ | refine nog_ret ?_
    exact ret1 Try.results20 rfl ⟨by unfold largeV; rw [decide_eq_true h2, Bool.or_true]; rfl, rfl⟩
  by_cases h3 : 120 < cs.length
  · refine FC.seq (FC.region ?_)
    refine mv_ rfl rfl rfl ?_
    refine FL.pur rfl rfl (p_lss rfl rfl (decide_eq_false h1)) ?_
    refine mv_ rfl rfl rfl ?_
    refine mv_ rfl rfl rfl ?_
    refine FL.pur rfl rfl (p_gtr rfl rfl (decide_eq_false h2)) ?_
    refine FL.pur rfl rfl (p_pick_f rfl rfl) ?_
    refine mv_ rfl rfl rfl ?_
    refine mv_ rfl rfl rfl ?_
    refine FL.pur rfl rfl (p_len rfl Try.underlying22) ?_
    refine FL.pur rfl rfl (p_gtr rfl rfl (decide_eq_true (by omega))) ?_
    refine FL.pur rfl rfl (p_pick_f rfl rfl) ?_
    refine mv_ rfl rfl rfl ?_
    refine FL.off rfl rfl ?_
    refine FL.off rfl rfl ?_
    refine FL.pur rfl rfl (p_pick_t rfl rfl) ?_
    refine sg_ rfl rfl rfl ?_
    refine FL.nilK ?_
    refine FC.ret ?_
    repeat with_reducible first | refine thn_ret ?_ | refine blk_ret ?_ | refine nog_ret ?_
    exact ret1 Try.results20 rfl ⟨by unfold largeV; rw [decide_eq_true h3, Bool.or_true]; rfl, rfl⟩
  refine FC.seq (FC.region ?_)
  refine mv_ rfl rfl rfl ?_
  refine FL.pur rfl rfl (p_lss rfl rfl (decide_eq_false h1)) ?_
  refine mv_ rfl rfl rfl ?_
  refine mv_ rfl rfl rfl ?_
  refine FL.pur rfl rfl (p_gtr rfl rfl (decide_eq_false h2)) ?_
  refine FL.pur rfl rfl (p_pick_f rfl rfl) ?_
  refine mv_ rfl rfl rfl ?_
  refine mv_ rfl rfl rfl ?_
  refine FL.pur rfl rfl (p_len rfl Try.underlying22) ?_
  refine FL.pur rfl rfl (p_gtr rfl rfl (decide_eq_false (by omega))) ?_
  refine FL.pur rfl rfl (p_pick_f rfl rfl) ?_
  refine mv_ rfl rfl rfl ?_
  refine mv_ rfl rfl rfl ?_
  refine FL.call rfl rfl (p_call Try.func10 rfl rfl rfl) (km) ?_
  rintro e_ w_ ⟨rfl, rfl⟩
  refine ⟨_, rfl, ?_⟩
  refine FL.pur rfl rfl (p_pick_f rfl rfl) ?_
  refine sg_ rfl rfl rfl ?_
  refine FL.nilK ?_
  refine FC.ret ?_
  repeat with_reducible first | refine thn_ret ?_ | refine blk_ret ?_ | refine nog_ret ?_
  exact ret1 Try.results20 rfl ⟨by unfold largeV; rw [decide_eq_false h1, decide_eq_false h2, decide_eq_false h3]; rfl, rfl⟩

set_option maxHeartbeats 1000000 in
theorem right_calls {Pr : Nat → Prop} {ans : Int} {mv pv : Value} (a : Int) (ha : 0 ≤ a ∧ a ≤ 5000) (h1 : Rws w B v cs) (hB : B ≤ w.heap.size) (hn : cs.length < 4611686018427387904) (hl : ∀ c ∈ cs, c.length < 1099511627776 ∧ Small64 c) (ho : OutR cs (a + 1).toNat (decide (a ≤ 14)) w Pr ans mv pv) :
    Calls Try.prog 22 #[.int .i64 a, v, .agg #[.int .u8 ans, mv, pv]] w fun e w' => e = .returned (.bool true) ∧ Fr (fun _ => False) w w' := by
  refine calls_of_FC (N := 71) (vs := [.int .i64 a, v, .agg #[.int .u8 ans, mv, pv]]) Try.func22 rfl Try.ntmps22 (Nat.le_of_ble_eq_true rfl) ?_
  refine FC.seq (FC.region ?_)
  refine FL.val _ _ rfl rfl (p_box rfl) ?_
  refine sg_ rfl rfl rfl ?_
  refine FL.nilK ?_
  obtain ⟨w1, hw1⟩ : ∃ w1, w1 = w.alloc (.cells #[.int .u8 ans, mv, pv] 36) := ⟨_, rfl⟩
  have f1 : Fr (fun _ => False) w w1 := by rw [hw1]; exact (Fr.refl _ w).alloc _
  have g1 : w1.heap[w.heap.size]? = some (.cells #[.int .u8 ans, mv, pv] 36 (0, 0)) := by rw [hw1]; exact heap_alloc_new w _
  have hw : w.heap.size < w1.heap.size := (Array.getElem?_eq_some_iff.1 g1).1
  rw [← hw1]
  generalize w.heap.size = rb at *
  have c0 : w1.cell? ⟨rb, 0, none⟩ = some (.int .u8 ans) := cell_row g1 rfl
  have c1 : w1.cell? ⟨rb, 1, none⟩ = some mv := cell_row g1 rfl
  have c2 : w1.cell? ⟨rb, 2, none⟩ = some pv := cell_row g1 rfl
  have h1 : Rws w1 w1.heap.size v cs := (h1.go f1).p.rws
  refine FC.seq ?_
  refine FC.seq (FC.region ?_)
  refine FL.pur rfl rfl (fld36_0 rfl) ?_
  refine FL.val _ _ rfl rfl (p_load rfl Try.underlying5 rfl c0) ?_
  refine FL.nilK ?_
  refine FC.block ?_
  rcases ho with ⟨rfl, rfl, bs, hb, hbl, hs⟩ | ⟨rfl, rfl, ps, hp, hsp, hpl⟩ | ⟨rfl, h14, rfl, rfl⟩
  · have hb : BRow w1 w1.heap.size mv bs := (hb.fr f1 fun _ _ h => h).mono fun k hk hl => hl
    have hb' := hb
    obtain ⟨Ab, cb, rfl, _⟩ := hb'
    have k7 := refholds_calls h1 hb hn (fun c hc => ⟨by have := (hl c hc).1; omega, (hl c hc).2⟩) (by omega)
    rw [hs] at k7
    refine FC.seq (FC.region ?_)
    refine FL.pur rfl rfl (p_eql rfl rfl rfl) ?_
    refine sg_ rfl rfl rfl ?_
    refine FL.nilK ?_
    refine FC.cond_t rfl ?_
    refine FC.seq (FC.region ?_)
    refine FL.pur rfl rfl (fld36_1 rfl) ?_
    refine FL.val _ _ rfl rfl (p_load rfl Try.underlying23 rfl c1) ?_
    refine FL.pur rfl rfl (p_len rfl Try.underlying23) ?_
    refine mv_ rfl rfl rfl ?_
    refine FL.pur rfl rfl (p_eql rfl rfl (decide_eq_true (by omega))) ?_
    refine mv_ rfl rfl rfl ?_
    refine FL.pur rfl rfl (fld36_2 rfl) ?_
    refine FL.val _ _ rfl rfl (p_load rfl Try.underlying22 rfl c2) ?_
    refine FL.pur rfl rfl (p_len rfl Try.underlying22) ?_
    refine FL.pur rfl rfl (p_eql rfl rfl (decide_eq_true (by omega))) ?_
    refine FL.pur rfl rfl (p_pick_t rfl rfl) ?_
    refine mv_ rfl rfl rfl ?_
    refine mv_ rfl rfl rfl ?_
    refine FL.pur rfl rfl (fld36_1 rfl) ?_
    refine FL.val _ _ rfl rfl (p_load rfl Try.underlying23 rfl c1) ?_
    refine FL.call rfl rfl (p_call Try.func15 rfl rfl rfl) (k7) ?_
    rintro e_ w_ ⟨rfl, rfl⟩
    refine ⟨_, rfl, ?_⟩
    refine FL.pur rfl rfl (p_pick_t rfl rfl) ?_
    refine sg_ rfl rfl rfl ?_
    refine FL.nilK ?_
    refine FC.ret ?_
    repeat with_reducible first | refine thn_ret ?_ | refine blk_ret ?_ | refine nog_ret ?_
    exact ret1 Try.results22 rfl ⟨rfl, f1⟩
  · have e1 : (((a + 1).toNat : Nat) : Int) - 1 = a := by omega
    rw [e1] at hsp
    have hp : RwsP w1 (fun k => k < w1.heap.size) pv ps := (hp.1.fr f1 fun _ _ h => h).mono fun k hk hl => hl
    have hp' := hp
    obtain ⟨Ap, cp, rfl, _⟩ := hp'
    have hp2 := hsp.2.1
    have k6 := many_calls hp 3000 (by omega) (by omega) fun c hc => by have := hpl c hc; omega
    refine FC.seq (FC.region ?_)
    refine FL.pur rfl rfl (p_eql rfl rfl rfl) ?_
    refine sg_ rfl rfl rfl ?_
    refine FL.nilK ?_
    refine FC.cond_f rfl ?_
    refine FC.seq (FC.region ?_)
    refine FL.pur rfl rfl (p_eql rfl rfl rfl) ?_
    refine sg_ rfl rfl rfl ?_
    refine FL.nilK ?_
    refine FC.cond_t rfl ?_
    cases c3 : manyV ps 3000 with
    | true =>
      rw [c3] at k6
      refine FC.seq (FC.region ?_)
      refine FL.pur rfl rfl (fld36_1 rfl) ?_
      refine FL.val _ _ rfl rfl (p_load rfl Try.underlying23 rfl c1) ?_
      refine FL.pur rfl rfl (p_len rfl Try.underlying23) ?_
      refine FL.pur rfl rfl (p_eql rfl rfl (decide_eq_true (by omega))) ?_
      refine mv_ rfl rfl rfl ?_
      refine FL.pur rfl rfl (fld36_2 rfl) ?_
      refine FL.val _ _ rfl rfl (p_load rfl Try.underlying22 rfl c2) ?_
      refine FL.pur rfl rfl (p_len rfl Try.underlying22) ?_
      refine FL.pur rfl rfl (p_leq rfl rfl (decide_eq_true (by omega))) ?_
      refine FL.pur rfl rfl (p_pick_t rfl rfl) ?_
      refine mv_ rfl rfl rfl ?_
      refine FL.pur rfl rfl (fld36_2 rfl) ?_
      refine FL.val _ _ rfl rfl (p_load rfl Try.underlying22 rfl c2) ?_
      refine FL.call rfl rfl (p_call Try.func10 rfl rfl rfl) (k6) ?_
      rintro e_ w_ ⟨rfl, rfl⟩
      refine ⟨_, rfl, ?_⟩
      refine mv_ rfl rfl rfl ?_
      refine FL.off rfl rfl ?_
      refine FL.off rfl rfl ?_
      refine FL.off rfl rfl ?_
      refine FL.off rfl rfl ?_
      refine FL.off rfl rfl ?_
      refine FL.pur rfl rfl (p_pick_t rfl rfl) ?_
      refine FL.pur rfl rfl (p_pick_t rfl rfl) ?_
      refine sg_ rfl rfl rfl ?_
      refine FL.nilK ?_
      refine FC.ret ?_
      repeat with_reducible first | refine thn_ret ?_ | refine blk_ret ?_ | refine nog_ret ?_
      exact ret1 Try.results22 rfl ⟨rfl, f1⟩
    | false =>
      rw [c3] at k6
      have k9 := refrefutes_calls a (by omega) h1.p hp (fun k hk => hk) hn (fun c hc => by have := (hl c hc).1; omega) (by omega) (fun c hc => by have := hpl c hc; omega)
      refine FC.seq (FC.region ?_)
      refine FL.pur rfl rfl (fld36_1 rfl) ?_
      refine FL.val _ _ rfl rfl (p_load rfl Try.underlying23 rfl c1) ?_
      refine FL.pur rfl rfl (p_len rfl Try.underlying23) ?_
      refine FL.pur rfl rfl (p_eql rfl rfl (decide_eq_true (by omega))) ?_
      refine mv_ rfl rfl rfl ?_
      refine FL.pur rfl rfl (fld36_2 rfl) ?_
      refine FL.val _ _ rfl rfl (p_load rfl Try.underlying22 rfl c2) ?_
      refine FL.pur rfl rfl (p_len rfl Try.underlying22) ?_
      refine FL.pur rfl rfl (p_leq rfl rfl (decide_eq_true (by omega))) ?_
      refine FL.pur rfl rfl (p_pick_t rfl rfl) ?_
      refine mv_ rfl rfl rfl ?_
      refine FL.pur rfl rfl (fld36_2 rfl) ?_
      refine FL.val _ _ rfl rfl (p_load rfl Try.underlying22 rfl c2) ?_
      refine FL.call rfl rfl (p_call Try.func10 rfl rfl rfl) (k6) ?_
      rintro e_ w_ ⟨rfl, rfl⟩
      refine ⟨_, rfl, ?_⟩
      refine mv_ rfl rfl rfl ?_
      refine mv_ rfl rfl rfl ?_
      refine mv_ rfl rfl rfl ?_
      refine FL.pur rfl rfl (fld36_2 rfl) ?_
      refine FL.val _ _ rfl rfl (p_load rfl Try.underlying22 rfl c2) ?_
      refine FL.call rfl rfl (p_call Try.func17 rfl rfl rfl) (k9) ?_
      rintro e_ w_ ⟨⟨x9, rfl, y9⟩, f9⟩
      refine ⟨_, rfl, ?_⟩
      refine FL.pur rfl rfl (p_pick_f rfl rfl) ?_
      refine FL.pur rfl rfl (p_pick_t rfl rfl) ?_
      refine sg_ rfl rfl rfl ?_
      refine FL.nilK ?_
      refine FC.ret ?_
      repeat with_reducible first | refine thn_ret ?_ | refine blk_ret ?_ | refine nog_ret ?_
      refine ret1 Try.results22 rfl ⟨?_, f1.go f9⟩
      rw [y9.2 hsp]
  · have h14 : ¬ a ≤ 14 := of_decide_eq_false h14.1
    refine FC.seq (FC.region ?_)
    refine FL.pur rfl rfl (p_eql rfl rfl rfl) ?_
    refine sg_ rfl rfl rfl ?_
    refine FL.nilK ?_
    refine FC.cond_f rfl ?_
    refine FC.seq (FC.region ?_)
    refine FL.pur rfl rfl (p_eql rfl rfl rfl) ?_
    refine sg_ rfl rfl rfl ?_
    refine FL.nilK ?_
    refine FC.cond_f rfl (FC.skip ?_)
    refine blk_normal (thn_normal ?_)
    refine FC.seq (FC.region ?_)
    refine FL.pur rfl rfl (fld36_0 rfl) ?_
    refine FL.val _ _ rfl rfl (p_load rfl Try.underlying5 rfl c0) ?_
    refine FL.pur rfl rfl (p_eql rfl rfl (decide_eq_true rfl)) ?_
    refine mv_ rfl rfl rfl ?_
    refine mv_ rfl rfl rfl ?_
    refine FL.pur rfl rfl (p_gtr rfl rfl (decide_eq_true (by omega))) ?_
    refine FL.pur rfl rfl (p_pick_t rfl rfl) ?_
    refine mv_ rfl rfl rfl ?_
    refine FL.pur rfl rfl (fld36_1 rfl) ?_
    refine FL.val _ _ rfl rfl (p_load rfl Try.underlying23 rfl c1) ?_
    refine FL.pur rfl rfl (p_len rfl Try.underlying23) ?_
    refine FL.pur rfl rfl (p_eql rfl rfl (decide_eq_true rfl)) ?_
    refine FL.pur rfl rfl (p_pick_t rfl rfl) ?_
    refine mv_ rfl rfl rfl ?_
    refine FL.pur rfl rfl (fld36_2 rfl) ?_
    refine FL.val _ _ rfl rfl (p_load rfl Try.underlying22 rfl c2) ?_
    refine FL.pur rfl rfl (p_len rfl Try.underlying22) ?_
    refine FL.pur rfl rfl (p_eql rfl rfl (decide_eq_true rfl)) ?_
    refine FL.pur rfl rfl (p_pick_t rfl rfl) ?_
    refine sg_ rfl rfl rfl ?_
    refine FL.nilK ?_
    refine FC.ret ?_
    repeat with_reducible first | refine thn_ret ?_ | refine blk_ret ?_ | refine nog_ret ?_
    exact ret1 Try.results22 rfl ⟨rfl, f1⟩
end
end Go.Proofs.Ytcahhbcehnbdkaa.Sv

/- Walk of alive: the chapter's example. -/
namespace Go.Proofs.Ytcahhbcehnbdkaa.Sv
open Go.RowKit Go.Proofs.YtcahhbcehnbdkaaW.PrintWords Go.Proofs.YtcahhbcehnbdkaaW.PrintLast Go.Proofs.Ytcahhbcehnbdkaa.Eng
section
variable {w w' : World} {B b : Nat} {P : Nat → Prop} {v u mv pv : Value} {cs ps : List (List Int)} {bs : List Bool} {ans err : Int}
theorem sol_three (h : SolR 2 exThree 10 w P ans mv pv err) : ans = 1 ∧ err = 0 ∧ pv = .slice none 0 0 ∧ BRowP w P mv [true, true] := by
  rcases h with ⟨h | h, _⟩ | ⟨_, _, h3, ⟨h4, h5, bs, h6, h7, h8⟩ | ⟨h4, _, ps, _, h7, _⟩ | ⟨_, h4, _⟩⟩
  · exact absurd (show checkV 2 exThree = 0 by decide) h.1
  · omega
  · have := three_model bs h7 h8
    subst this
    exact ⟨h4, h3, h5, h6⟩
  · exact absurd three_sat (h7.none rfl)
  · exact absurd h4.1 (by decide)
theorem sol_four (h : SolR 2 exFour 10 w P ans mv pv err) : ans = 2 ∧ err = 0 ∧ mv = .slice none 0 0 ∧ ∃ ps, RwsP w P pv ps ∧ RefSpec 2 exFour ps ∧ ∀ c ∈ ps, c.length < 3 := by
  rcases h with ⟨h | h, _⟩ | ⟨_, _, h3, ⟨h4, h5, bs, h6, h7, h8⟩ | ⟨h4, h5, ps, h6, h7, h8⟩ | ⟨_, h4, _⟩⟩
  · exact absurd (show checkV 2 exFour = 0 by decide) h.1
  · omega
  · exact absurd h8 (four_unsat bs h7)
  · exact ⟨h4, h3, h5, ps, h6.1, h7, h8⟩
  · exact absurd h4.1 (by decide)
theorem zs_size : (#[.int .u8 0, .slice none 0 0, .slice none 0 0] : Array Value).size = (#[v, u, mv] : Array Value).size := rfl
theorem all3' (h1 : u.oneCell' = true) (h2 : mv.oneCell' = true) (h3 : pv.oneCell' = true) : (#[u, mv, pv] : Array Value).all (·.oneCell') = true := all3 h1 h2 h3
/-- A solution that is stored in a variable of its own. -/
theorem put_var (w : World) (cells : Array Value) : ((w.alloc (.cells #[.int .u8 0, .slice none 0 0, .slice none 0 0] 36)).setRow w.heap.size cells).heap[w.heap.size]? = some (.cells cells 36 (0, 0)) ∧ Fr (fun _ => False) w ((w.alloc (.cells #[.int .u8 0, .slice none 0 0, .slice none 0 0] 36)).setRow w.heap.size cells) :=
  ⟨setRow_heap _ _ _ _ 36 (0, 0) (heap_alloc_new w _), ((Fr.refl _ w).alloc _).setRow _ (.inr (Nat.le_refl _))⟩
def w21 (w : World) : World := ((w.alloc (.cells #[.int .i64 2] 3)).alloc (.cells #[] 3)).alloc (.cells #[.slice (some ⟨w.heap.size, 0, none⟩) 1 1, .slice (some ⟨(w.alloc (.cells #[.int .i64 2] 3)).heap.size, 0, none⟩) 0 0] 41)
theorem lit_21 (w : World) : Rws (w21 w) (w21 w).heap.size (.slice (some ⟨((w.alloc (.cells #[.int .i64 2] 3)).alloc (.cells #[] 3)).heap.size, 0, none⟩) 2 2) [[2], []] ∧ Fr (fun _ => False) w (w21 w) := by
  unfold w21
  refine ⟨?_, ((Fr.refl _ w).alloc _).alloc _ |>.alloc _⟩
  have r1 : RowP (w.alloc (.cells #[.int .i64 2] 3)) (fun _ => True) (.slice (some ⟨w.heap.size, 0, none⟩) 1 1) [2] := rowP_lit (b := w.heap.size) (c := [2]) (heap_alloc_new w _) trivial
  obtain ⟨w1, hw1⟩ : ∃ w1, w1 = w.alloc (.cells #[.int .i64 2] 3) := ⟨_, rfl⟩
  rw [← hw1] at r1 ⊢
  obtain ⟨w2, hw2⟩ : ∃ w2, w2 = w1.alloc (.cells #[] 3) := ⟨_, rfl⟩
  have f2 : Fr (fun _ => False) w1 w2 := by rw [hw2]; exact (Fr.refl _ _).alloc _
  rw [← hw2]
  obtain ⟨w3, hw3⟩ : ∃ w3, w3 = w2.alloc (.cells #[.slice (some ⟨w.heap.size, 0, none⟩) 1 1, .slice (some ⟨w1.heap.size, 0, none⟩) 0 0] 41) := ⟨_, rfl⟩
  have f3 : Fr (fun _ => False) w2 w3 := by rw [hw3]; exact (Fr.refl _ _).alloc _
  have h3 : w3.heap[w2.heap.size]? = some (.cells #[.slice (some ⟨w.heap.size, 0, none⟩) 1 1, .slice (some ⟨w1.heap.size, 0, none⟩) 0 0] 41 (0, 0)) := by rw [hw3]; exact heap_alloc_new w2 _
  rw [← hw3]
  have r1 := (r1.fr f2 fun _ _ h => h).fr f3 fun _ _ h => h
  have r2 : RowP w3 (fun _ => True) (.slice (some ⟨w1.heap.size, 0, none⟩) 0 0) [] := ⟨_, _, rfl, fun i hi => absurd hi (Nat.not_lt_zero _)⟩
  have : RwsP w3 (fun _ => True) (.slice (some ⟨w2.heap.size, 0, none⟩) 2 2) [[2], []] := ⟨_, _, rfl, fun i hi => by
    have hi : i < 2 := hi
    rcases (show i = 0 ∨ i = 1 by omega) with rfl | rfl
    · exact ⟨_, _, rfl, trivial, cell_row h3 rfl, r1⟩
    · exact ⟨_, _, rfl, trivial, cell_row h3 rfl, r2⟩⟩
  exact this.rws
set_option maxHeartbeats 4000000 in
theorem alive_calls (w : World) : Calls Try.prog 19 #[] w fun e w' => e = .returned (.bool true) ∧ Fr (fun _ => False) w w' := by
  refine calls_of_FC (N := 79) (vs := []) Try.func19 rfl Try.ntmps19 (Nat.le_of_ble_eq_true rfl) ?_
  refine FC.seq (FC.region ?_)
  refine sg_ rfl rfl rfl ?_
  refine FL.nilK ?_
  refine FC.seq (FC.region ?_)
  refine FL.call rfl rfl (p_call Try.func23 rfl rfl rfl) (three_calls w) ?_
  rintro e_ w_ ⟨v3, rfl, h3, f3⟩
  refine ⟨_, rfl, ?_⟩
  refine FL.call rfl rfl (p_call Try.func21 rfl rfl rfl) (solve_calls 2 10 h3.rws.rws (Nat.le_refl _) (by decide) (by decide)) ?_
  rintro e_ w_ ⟨ans, mv, pv, err, rfl, hso, f4⟩
  refine ⟨_, rfl, ?_⟩
  refine mv_ rfl rfl rfl ?_
  refine FL.pur rfl rfl (p_extract rfl rfl) ?_
  refine FL.pur rfl rfl (p_extract rfl rfl) ?_
  refine FL.val _ _ rfl rfl (p_allocA inf36_eq inf36_zero) ?_
  obtain ⟨rfl, rfl, rfl, hm⟩ := sol_three hso
  have hm1 : mv.oneCell' = true := by { obtain ⟨_, _, rfl, _⟩ := hm; rfl }
  refine FL.sto _ rfl (p_storeA rfl rfl (heap_alloc_new _ _) inf36_size rfl (all3' rfl hm1 rfl)) ?_
  refine sg_ rfl rfl rfl ?_
  refine FL.nilK ?_
  obtain ⟨wa, hwa⟩ : ∃ wa, wa = w_ := ⟨_, rfl⟩
  rw [← hwa] at hm f4 ⊢
  clear hwa
  have z1 := (put_var wa #[.int .u8 1, mv, .slice none 0 0]).1
  have f5 := (put_var wa #[.int .u8 1, mv, .slice none 0 0]).2
  obtain ⟨w5, hw5⟩ : ∃ w5, w5 = ((wa.alloc (.cells #[.int .u8 0, .slice none 0 0, .slice none 0 0] 36)).setRow wa.heap.size #[.int .u8 1, mv, .slice none 0 0]) := ⟨_, rfl⟩
  rw [← hw5] at z1 f5
  have hm := hm.fr f5 fun _ _ h => h
  have fa := (f3.go f4).go f5
  obtain ⟨b1, hb1⟩ : ∃ b1, b1 = wa.heap.size := ⟨_, rfl⟩
  rw [← hb1] at z1
  have ew : (wa.alloc (.cells (Value.agg #[.int .u8 0, .slice none 0 0, .slice none 0 0]).cells 36)).setRow wa.heap.size #[.int .u8 1, mv, .slice none 0 0] = w5 := hw5.symm
  rw [ew, ← hb1]
  clear hw5 hb1 ew f3 f4 f5 h3
  refine FC.seq (FC.region ?_)
  refine FL.call rfl rfl (p_call Try.func23 rfl rfl rfl) (three_calls w5) ?_
  rintro e_ w_ ⟨v3, rfl, h3, f6⟩
  refine ⟨_, rfl, ?_⟩
  refine FL.val _ _ rfl rfl (p_build2 rfl rfl Try.underlying41 inf3_eq inf3_size inf3_zero rfl rfl rfl) ?_
  obtain ⟨wb, hwb⟩ : ∃ wb, wb = w_.alloc (.cells #[.int .i64 (-1), .int .i64 (-2)] 3) := ⟨_, rfl⟩
  have f7 : Fr (fun _ => False) w_ wb := by { rw [hwb]; exact (Fr.refl _ _).alloc _ }
  have r4 : RowP wb (fun k => w5.heap.size ≤ k ∧ ¬ v3.ownBlock = some k) (.slice (some ⟨w_.heap.size, 0, none⟩) 2 2) [-1, -2] := rowP_lit (w := wb) (b := w_.heap.size) (c := [-1, -2]) (by rw [hwb]; exact heap_alloc_new w_ _) ⟨f6.size, fun e => by { have := (h3.out.choose_spec.1.lt _ e).2; omega }⟩
  rw [← hwb]
  have h3 := h3.fr f7 (fun _ _ h => h) (fun _ _ h => h)
  refine FL.val _ _ rfl rfl (bld22 rfl rfl) ?_
  refine FL.valG _ rfl rfl (h3.app (by have := f6.size; have := f7.size; omega) (by decide) r4 rfl rfl) ?_
  rintro v4 w4 ⟨h4, f8, _⟩
  refine sg_ rfl rfl rfl ?_
  refine FL.nilK ?_
  have f8 : Fr (fun _ => False) w5 w4 := (f6.go f7).trans f8 fun k hk => .inr (h3.out.choose_spec.1.lt k hk).1
  have h4 : AllRow w4 w5.heap.size (fun k => w5.heap.size ≤ k) v4 exFour := h4
  have h4 := h4.rws.rws
  have h4' := h4
  obtain ⟨A4, cap4, rfl, _⟩ := h4'
  clear f6 f7 r4 hwb h3
  refine FC.seq (FC.region ?_)
  refine mv_ rfl rfl rfl ?_
  refine FL.call rfl rfl (p_call Try.func21 rfl rfl rfl) (solve_calls 2 10 h4 (Nat.le_refl _) (by decide) (by decide)) ?_
  rintro e_ w_ ⟨ans, mv2, pv2, err, rfl, hso2, f9⟩
  refine ⟨_, rfl, ?_⟩
  refine mv_ rfl rfl rfl ?_
  refine FL.pur rfl rfl (p_extract rfl rfl) ?_
  refine FL.pur rfl rfl (p_extract rfl rfl) ?_
  refine FL.val _ _ rfl rfl (p_allocA inf36_eq inf36_zero) ?_
  obtain ⟨rfl, rfl, rfl, ps, hp, hps, hpl⟩ := sol_four hso2
  have hp1 : pv2.oneCell' = true := by { obtain ⟨_, _, rfl, _⟩ := hp; rfl }
  refine FL.sto _ rfl (p_storeA rfl rfl (heap_alloc_new _ _) inf36_size rfl (all3' rfl rfl hp1)) ?_
  refine sg_ rfl rfl rfl ?_
  refine FL.nilK ?_
  obtain ⟨wa, hwa⟩ : ∃ wa, wa = w_ := ⟨_, rfl⟩
  rw [← hwa] at hp f9 ⊢
  clear hwa
  have z2 := (put_var wa #[.int .u8 2, .slice none 0 0, pv2]).1
  have f5 := (put_var wa #[.int .u8 2, .slice none 0 0, pv2]).2
  obtain ⟨w6, hw6⟩ : ∃ w6, w6 = ((wa.alloc (.cells #[.int .u8 0, .slice none 0 0, .slice none 0 0] 36)).setRow wa.heap.size #[.int .u8 2, .slice none 0 0, pv2]) := ⟨_, rfl⟩
  rw [← hw6] at z2 f5
  have hp : RwsP w6 (fun k => k < w6.heap.size) pv2 ps := (hp.fr f5 fun _ _ h => h).mono fun k _ hk => hk
  have h4 := (h4.go f9).go f5
  have h4r : Rws w6 w6.heap.size _ exFour := h4.p.rws
  have f95 := f9.go f5
  have fb := f8.go f95
  have z1 := (fb.block b1 (Array.getElem?_eq_some_iff.1 z1).1 fun h => h).trans z1
  have hm := hm.fr fb fun _ _ h => h
  have fa := fa.go fb
  obtain ⟨b2, hb2⟩ : ∃ b2, b2 = wa.heap.size := ⟨_, rfl⟩
  rw [← hb2] at z2
  have ew : (wa.alloc (.cells (Value.agg #[.int .u8 0, .slice none 0 0, .slice none 0 0]).cells 36)).setRow wa.heap.size #[.int .u8 2, .slice none 0 0, pv2] = w6 := hw6.symm
  rw [ew, ← hb2]
  clear hw6 hb2 ew f8 f9 f95 fb f5 hso hso2
  have a0 : w6.cell? ⟨b1, 0, none⟩ = some (.int .u8 1) := cell_row z1 rfl
  have a1 : w6.cell? ⟨b1, 1, none⟩ = some mv := cell_row z1 rfl
  have a2 : w6.cell? ⟨b1, 2, none⟩ = some (.slice none 0 0) := cell_row z1 rfl
  have e0 : w6.cell? ⟨b2, 0, none⟩ = some (.int .u8 2) := cell_row z2 rfl
  have e1 : w6.cell? ⟨b2, 1, none⟩ = some (.slice none 0 0) := cell_row z2 rfl
  have e2 : w6.cell? ⟨b2, 2, none⟩ = some pv2 := cell_row z2 rfl
  clear z1 z2
  obtain ⟨Am, cm, rfl, hmc⟩ := hm
  obtain ⟨ad, rfl, _, x0⟩ := hmc 0 (by decide)
  obtain ⟨ad', e, _, x1⟩ := hmc 1 (by decide)
  injection e with e
  subst e
  clear hmc
  have k50 := refrefutes_calls 2 (by omega) h4r.p hp (fun k hk => hk) (by decide) (by decide) (by have := hps.2.1; omega) (fun c hc => by have := hpl c hc; omega)
  refine FC.seq (FC.region ?_)
  refine mv_ rfl rfl rfl ?_
  refine FL.pur rfl rfl (p_eql rfl rfl (decide_eq_true rfl)) ?_
  refine mv_ rfl rfl rfl ?_
  refine FL.pur rfl rfl (fld36_0 rfl) ?_
  refine FL.val _ _ rfl rfl (p_load rfl Try.underlying5 rfl a0) ?_
  refine FL.pur rfl rfl (p_eql rfl rfl (decide_eq_true rfl)) ?_
  refine FL.pur rfl rfl (p_pick_t rfl rfl) ?_
  refine mv_ rfl rfl rfl ?_
  refine FL.pur rfl rfl (fld36_1 rfl) ?_
  refine FL.val _ _ rfl rfl (p_load rfl Try.underlying23 rfl a1) ?_
  refine FL.pur rfl rfl (p_len rfl Try.underlying23) ?_
  refine FL.pur rfl rfl (p_eql rfl rfl (decide_eq_true rfl)) ?_
  refine FL.pur rfl rfl (p_pick_t rfl rfl) ?_
  refine mv_ rfl rfl rfl ?_
  refine FL.pur rfl rfl (fld36_1 rfl) ?_
  refine FL.val _ _ rfl rfl (p_load rfl Try.underlying23 rfl a1) ?_
  refine FL.pur rfl rfl (p_indexA rfl rfl Try.underlying23 inf4_eq inf4_size (by decide) (by decide)) ?_
  refine FL.val _ _ rfl rfl (p_load rfl Try.underlying4 rfl x0) ?_
  refine FL.pur rfl rfl (p_pick_t rfl rfl) ?_
  refine mv_ rfl rfl rfl ?_
  refine FL.pur rfl rfl (fld36_1 rfl) ?_
  refine FL.val _ _ rfl rfl (p_load rfl Try.underlying23 rfl a1) ?_
  refine FL.pur rfl rfl (p_indexA rfl rfl Try.underlying23 inf4_eq inf4_size (by decide) (by decide)) ?_
  refine FL.val _ _ rfl rfl (p_load rfl Try.underlying4 rfl x1) ?_
  refine FL.pur rfl rfl (p_pick_t rfl rfl) ?_
  refine mv_ rfl rfl rfl ?_
  refine FL.pur rfl rfl (fld36_2 rfl) ?_
  refine FL.val _ _ rfl rfl (p_load rfl Try.underlying22 rfl a2) ?_
  refine FL.pur rfl rfl (p_len rfl Try.underlying22) ?_
  refine FL.pur rfl rfl (p_eql rfl rfl (decide_eq_true rfl)) ?_
  refine FL.pur rfl rfl (p_pick_t rfl rfl) ?_
  refine mv_ rfl rfl rfl ?_
  refine mv_ rfl rfl rfl ?_
  refine FL.pur rfl rfl (p_eql rfl rfl (decide_eq_true rfl)) ?_
  refine FL.pur rfl rfl (p_pick_t rfl rfl) ?_
  refine mv_ rfl rfl rfl ?_
  refine FL.pur rfl rfl (fld36_0 rfl) ?_
  refine FL.val _ _ rfl rfl (p_load rfl Try.underlying5 rfl e0) ?_
  refine FL.pur rfl rfl (p_eql rfl rfl (decide_eq_true rfl)) ?_
  refine FL.pur rfl rfl (p_pick_t rfl rfl) ?_
  refine mv_ rfl rfl rfl ?_
  refine FL.pur rfl rfl (fld36_1 rfl) ?_
  refine FL.val _ _ rfl rfl (p_load rfl Try.underlying23 rfl e1) ?_
  refine FL.pur rfl rfl (p_len rfl Try.underlying23) ?_
  refine FL.pur rfl rfl (p_eql rfl rfl (decide_eq_true rfl)) ?_
  refine FL.pur rfl rfl (p_pick_t rfl rfl) ?_
  refine mv_ rfl rfl rfl ?_
  refine mv_ rfl rfl rfl ?_
  refine FL.pur rfl rfl (fld36_2 rfl) ?_
  refine FL.val _ _ rfl rfl (p_load rfl Try.underlying22 rfl e2) ?_
  refine FL.call rfl rfl (p_call Try.func17 rfl rfl rfl) (k50) ?_
  rintro e_ w_ ⟨⟨x5, rfl, y5⟩, f10⟩
  refine ⟨_, rfl, ?_⟩
  obtain rfl : x5 = true := y5.2 hps
  refine FL.pur rfl rfl (p_pick_t rfl rfl) ?_
  refine mv_ rfl rfl rfl ?_
  refine mv_ rfl rfl rfl ?_
  refine FL.val _ _ rfl rfl (bld41 rfl rfl) ?_
  refine FL.val _ _ rfl rfl bld41_0 ?_
  refine FL.val _ _ rfl rfl (p_build2 rfl rfl Try.underlying22 inf41_eq inf41_size inf41_zero rfl rfl rfl) ?_
  obtain ⟨l1, l2⟩ := lit_21 w_
  obtain ⟨w8, hw8⟩ : ∃ w8, w8 = w21 w_ := ⟨_, rfl⟩
  rw [← hw8] at l1 l2
  unfold w21 at hw8
  rw [← hw8]
  refine FL.call rfl rfl (p_call Try.func16 rfl rfl rfl) (refutes_calls 2 (B := w8.heap.size) ((h4r.go f10).go l2).p.rws l1 (Nat.le_refl _) (by decide) (by decide) (by decide) (by decide)) ?_
  rintro e_ w_ ⟨⟨x6, rfl, y6⟩, f11⟩
  refine ⟨_, rfl, ?_⟩
  obtain rfl : x6 = true := y6.2 four_ref
  refine FL.pur rfl rfl (p_pick_t rfl rfl) ?_
  refine sg_ rfl rfl rfl ?_
  refine FL.nilK ?_
  refine FC.ret ?_
  repeat with_reducible first | refine thn_ret ?_ | refine blk_ret ?_ | refine nog_ret ?_
  exact ret1 Try.results19 rfl ⟨rfl, fa.go ((f10.go l2).go f11)⟩
end
end Go.Proofs.Ytcahhbcehnbdkaa.Sv

/- The walk of SolveAnswers. -/
namespace Go.Proofs.Ytcahhbcehnbdkaa.Sv
open Go.RowKit Go.Proofs.YtcahhbcehnbdkaaW.PrintWords Go.Proofs.YtcahhbcehnbdkaaW.PrintLast Go.Proofs.Ytcahhbcehnbdkaa.Eng
section
variable {w w' : World} {B b : Nat} {P F : Nat → Prop} {v u mv pv : Value} {cs ps : List (List Int)} {bs : List Bool} {a limit ans err : Int}
theorem OutR.cell {n : Nat} {s : Bool} (h : OutR cs n s w P ans mv pv) : mv.oneCell' = true ∧ pv.oneCell' = true := by
  rcases h with ⟨_, rfl, bs, ⟨A, c, rfl, _⟩, _⟩ | ⟨_, rfl, ps, ⟨⟨A, c, rfl, _⟩, _⟩, _⟩ | ⟨_, _, rfl, rfl⟩ <;> exact ⟨rfl, rfl⟩
theorem SolR.cell (h : SolR a cs limit w P ans mv pv err) : mv.oneCell' = true ∧ pv.oneCell' = true := by
  rcases h with ⟨_, _, rfl, rfl⟩ | ⟨_, _, _, h⟩
  · exact ⟨rfl, rfl⟩
  · exact h.cell
theorem OutR.fr {n : Nat} {s : Bool} (h : OutR cs n s w P ans mv pv) (hf : Fr F w w') (hp : ∀ k, P k → ¬ F k) : OutR cs n s w' P ans mv pv := by
  rcases h with ⟨e1, e2, bs, e3, e4⟩ | ⟨e1, e2, ps, e3, e4⟩ | h
  · exact .inl ⟨e1, e2, bs, e3.fr hf hp, e4⟩
  · exact .inr (.inl ⟨e1, e2, ps, e3.fr hf hp, e4⟩)
  · exact .inr (.inr h)
theorem SolR.fr (h : SolR a cs limit w P ans mv pv err) (hf : Fr F w w') (hp : ∀ k, P k → ¬ F k) : SolR a cs limit w' P ans mv pv err := by
  rcases h with h | ⟨x1, x2, x3, h⟩
  · exact .inl h
  · exact .inr ⟨x1, x2, x3, h.fr hf hp⟩
/-- What is stored is a world of its own: its name and what is known of it. -/
theorem put_name (wa : World) (ans : Int) (mv pv : Value) : ∃ w6 b1, w6 = ((wa.alloc (.cells (Value.agg #[.int .u8 0, .slice none 0 0, .slice none 0 0]).cells 36)).setRow wa.heap.size #[.int .u8 ans, mv, pv]) ∧ b1 = wa.heap.size ∧ w6.heap[b1]? = some (.cells #[.int .u8 ans, mv, pv] 36 (0, 0)) ∧ Fr (fun _ => False) wa w6 :=
  ⟨_, _, rfl, rfl, (put_var wa _).1, (put_var wa _).2⟩
set_option maxHeartbeats 4000000 in
theorem answers_law (a limit : Int) (ha : -9223372036854775808 ≤ a ∧ a < 9223372036854775808) (hB : B ≤ w.heap.size) (h1 : Rws w B v cs) (s1 : Sized cs) (h64 : ∀ c ∈ cs, Small64 c) :
    Calls Try.prog 4 #[.int .i64 a, v, .int .i64 limit] w fun e w' => e = .returned (.bool true) ∧ Fr (fun _ => False) w w' := by
  refine calls_of_FC (N := 79) (vs := [.int .i64 a, v, .int .i64 limit]) Try.func4 rfl Try.ntmps4 (Nat.le_of_ble_eq_true rfl) ?_
  refine FC.seq (FC.region ?_)
  refine sg_ rfl rfl rfl ?_
  refine FL.nilK ?_
  refine FC.seq (FC.region ?_)
  refine FL.call rfl rfl (p_call Try.func19 rfl rfl rfl) (alive_calls w) ?_
  rintro e_ w_ ⟨rfl, f1⟩
  refine ⟨_, rfl, ?_⟩
  refine sg_ rfl rfl rfl ?_
  refine FL.nilK ?_
  obtain ⟨w1, hw1⟩ : ∃ w1, w1 = w_ := ⟨_, rfl⟩
  rw [← hw1] at f1 ⊢
  clear hw1
  have h1 : Rws w1 w1.heap.size v cs := (h1.go f1).p.rws
  have kl := large_calls a h1.p s1.n62 s1.l62
  refine FC.seq ?_
  cases c1 : largeV a cs with
  | true =>
    rw [c1] at kl
    refine FC.seq (FC.region ?_)
    refine mv_ rfl rfl rfl ?_
    refine mv_ rfl rfl rfl ?_
    refine FL.call rfl rfl (p_call Try.func20 rfl rfl rfl) (kl) ?_
    rintro e_ w_ ⟨rfl, rfl⟩
    refine ⟨_, rfl, ?_⟩
    refine mv_ rfl rfl rfl ?_
    refine FL.off rfl rfl ?_
    refine FL.off rfl rfl ?_
    refine FL.pur rfl rfl (p_pick_t rfl rfl) ?_
    refine FL.nilK ?_
    refine FC.cond_t rfl ?_
    refine FC.seq (FC.region ?_)
    refine mv_ rfl rfl rfl ?_
    refine sg_ rfl rfl rfl ?_
    refine FL.nilK ?_
    refine FC.ret ?_
    repeat with_reducible first | refine thn_ret ?_ | refine blk_ret ?_ | refine nog_ret ?_
    exact ret1 Try.results4 rfl ⟨rfl, f1⟩
  | false =>
  rw [c1] at kl
  obtain ⟨a1, a2, n1, l1⟩ := large_no c1
  obtain ⟨_, l1⟩ := many_no l1
  have q1 : ∀ c ∈ cs, c.length < 1099511627776 := fun c hc => by have := l1 c hc; omega
  refine FC.seq (FC.region ?_)
  refine mv_ rfl rfl rfl ?_
  refine mv_ rfl rfl rfl ?_
  refine FL.call rfl rfl (p_call Try.func20 rfl rfl rfl) (kl) ?_
  rintro e_ w_ ⟨rfl, rfl⟩
  refine ⟨_, rfl, ?_⟩
  refine mv_ rfl rfl rfl ?_
  refine mv_ rfl rfl rfl ?_
  refine FL.pur rfl rfl (p_not rfl) ?_
  refine FL.pur rfl rfl (p_pick_f rfl rfl) ?_
  refine FL.nilK ?_
  refine FC.cond_f rfl (FC.skip (thn_normal ?_))
  refine FC.seq (FC.region ?_)
  refine mv_ rfl rfl rfl ?_
  refine FL.call rfl rfl (p_call Try.func11 rfl rfl rfl) (twin_calls h1.p (fun k hk => hk) (by omega) q1) ?_
  rintro e_ w_ ⟨t1, rfl, m1, f2⟩
  refine ⟨_, rfl, ?_⟩
  refine sg_ rfl rfl rfl ?_
  refine FL.nilK ?_
  have m1 := m1.rws.rws
  refine FC.seq (FC.region ?_)
  refine mv_ rfl rfl rfl ?_
  refine mv_ rfl rfl rfl ?_
  refine mv_ rfl rfl rfl ?_
  refine FL.call rfl rfl (p_call Try.func21 rfl rfl rfl) (solve_calls a limit m1 (Nat.le_refl _) (by omega) q1) ?_
  rintro e_ w_ ⟨ans, mv, pv, err, rfl, hso, f3⟩
  refine ⟨_, rfl, ?_⟩
  refine mv_ rfl rfl rfl ?_
  refine FL.pur rfl rfl (p_extract rfl rfl) ?_
  refine FL.pur rfl rfl (p_extract rfl rfl) ?_
  refine FL.val _ _ rfl rfl (p_allocA inf36_eq inf36_zero) ?_
  refine FL.sto _ rfl (p_storeA rfl rfl (heap_alloc_new _ _) inf36_size rfl (all3' rfl hso.cell.1 hso.cell.2)) ?_
  refine sg_ rfl rfl rfl ?_
  refine FL.nilK ?_
  obtain ⟨w6, b1, hw6, hb1, z1, f4⟩ := put_name w_ ans mv pv
  rw [← hw6, ← hb1]
  clear hw6 hb1
  have hso := hso.fr f4 fun _ _ h => h
  have f3 := f3.go f4
  have m1 : Rws w6 w6.heap.size t1 cs := (m1.go f3).p.rws
  have f2 := f2.go f3
  have h1 : Rws w6 w6.heap.size v cs := (h1.go f2).p.rws
  have f1 := f1.go f2
  clear f2 f3 f4
  refine FC.seq ?_
  refine FC.seq (FC.region ?_)
  refine mv_ rfl rfl rfl ?_
  refine mv_ rfl rfl rfl ?_
  refine FL.call rfl rfl (p_call Try.func18 rfl rfl rfl) (same_calls m1 h1 (by omega) s1.l62) ?_
  rintro e_ w_ ⟨rfl, f5⟩
  refine ⟨_, rfl, ?_⟩
  refine FL.pur rfl rfl (p_not rfl) ?_
  refine FL.nilK ?_
  refine FC.cond_f rfl (FC.skip (thn_normal ?_))
  obtain ⟨w7, hw7⟩ : ∃ w7, w7 = w_ := ⟨_, rfl⟩
  rw [← hw7] at f5 ⊢
  clear hw7
  have h1 : Rws w7 w7.heap.size v cs := (h1.go f5).p.rws
  have hso := hso.fr f5 fun _ _ h => h
  have z1 := (f5.block b1 (Array.getElem?_eq_some_iff.1 z1).1 fun h => h).trans z1
  have f1 := f1.go f5
  clear f5 m1
  have c0 : w7.cell? ⟨b1, 0, none⟩ = some (.int .u8 ans) := cell_row z1 rfl
  have c1 : w7.cell? ⟨b1, 1, none⟩ = some mv := cell_row z1 rfl
  have c2 : w7.cell? ⟨b1, 2, none⟩ = some pv := cell_row z1 rfl
  have kc := check_calls a h1 (by omega) s1.l62
  refine FC.seq (FC.region ?_)
  refine mv_ rfl rfl rfl ?_
  refine mv_ rfl rfl rfl ?_
  refine FL.call rfl rfl (p_call Try.func12 rfl rfl rfl) (kc) ?_
  rintro e_ w_ ⟨rfl, rfl⟩
  refine ⟨_, rfl, ?_⟩
  refine sg_ rfl rfl rfl ?_
  refine FL.nilK ?_
  refine FC.seq ?_
  rcases hso with ⟨⟨he, rfl⟩ | ⟨he, hlt, rfl⟩, rfl, rfl, rfl⟩ | ⟨he, hlt, rfl, ho⟩
  · refine FC.seq (FC.region ?_)
    refine mv_ rfl rfl rfl ?_
    refine FL.pur rfl rfl (p_eql rfl rfl (decide_eq_false he)) ?_
    refine mv_ rfl rfl rfl ?_
    refine FL.off rfl rfl ?_
    refine FL.off rfl rfl ?_
    refine FL.pur rfl rfl (p_pick_f rfl rfl) ?_
    refine FL.nilK ?_
    refine FC.cond_f rfl (FC.skip (thn_normal ?_))
    refine FC.seq ?_
    refine FC.seq (FC.region ?_)
    refine mv_ rfl rfl rfl ?_
    refine FL.pur rfl rfl (p_neq rfl rfl (show _ = !true by simp [he])) ?_
    refine mv_ rfl rfl rfl ?_
    refine FL.off rfl rfl ?_
    refine FL.off rfl rfl ?_
    refine FL.pur rfl rfl (p_pick_t rfl rfl) ?_
    refine FL.nilK ?_
    refine FC.cond_t rfl ?_
    refine FC.seq (FC.region ?_)
    refine mv_ rfl rfl rfl ?_
    refine mv_ rfl rfl rfl ?_
    refine mv_ rfl rfl rfl ?_
    refine mv_ rfl rfl rfl ?_
    refine FL.pur rfl rfl (p_eql rfl rfl (decide_eq_true rfl)) ?_
    refine FL.pur rfl rfl (p_pick_t rfl rfl) ?_
    refine mv_ rfl rfl rfl ?_
    refine FL.pur rfl rfl (fld36_0 rfl) ?_
    refine FL.val _ _ rfl rfl (p_load rfl Try.underlying5 rfl c0) ?_
    refine FL.pur rfl rfl (p_eql rfl rfl (decide_eq_true rfl)) ?_
    refine FL.pur rfl rfl (p_pick_t rfl rfl) ?_
    refine mv_ rfl rfl rfl ?_
    refine FL.pur rfl rfl (fld36_1 rfl) ?_
    refine FL.val _ _ rfl rfl (p_load rfl Try.underlying23 rfl c1) ?_
    refine FL.pur rfl rfl (p_len rfl Try.underlying23) ?_
    refine FL.pur rfl rfl (p_eql rfl rfl (decide_eq_true rfl)) ?_
    refine FL.pur rfl rfl (p_pick_t rfl rfl) ?_
    refine mv_ rfl rfl rfl ?_
    refine FL.pur rfl rfl (fld36_2 rfl) ?_
    refine FL.val _ _ rfl rfl (p_load rfl Try.underlying22 rfl c2) ?_
    refine FL.pur rfl rfl (p_len rfl Try.underlying22) ?_
    refine FL.pur rfl rfl (p_eql rfl rfl (decide_eq_true rfl)) ?_
    refine FL.pur rfl rfl (p_pick_t rfl rfl) ?_
    refine sg_ rfl rfl rfl ?_
    refine FL.nilK ?_
    refine FC.ret ?_
    repeat with_reducible first | refine thn_ret ?_ | refine blk_ret ?_ | refine nog_ret ?_
    exact ret1 Try.results4 rfl ⟨rfl, f1⟩
  · rw [he]
    refine FC.seq (FC.region ?_)
    refine mv_ rfl rfl rfl ?_
    refine FL.pur rfl rfl (p_eql rfl rfl (decide_eq_true rfl)) ?_
    refine mv_ rfl rfl rfl ?_
    refine mv_ rfl rfl rfl ?_
    refine FL.pur rfl rfl (p_lss rfl rfl (decide_eq_true hlt)) ?_
    refine FL.pur rfl rfl (p_pick_t rfl rfl) ?_
    refine FL.nilK ?_
    refine FC.cond_t rfl ?_
    refine FC.region ?_
    refine sg_ rfl rfl rfl ?_
    refine FL.nil ?_
    refine thn_normal ?_
    refine FC.seq ?_
    refine FC.seq (FC.region ?_)
    refine mv_ rfl rfl rfl ?_
    refine FL.pur rfl rfl (p_neq rfl rfl (show _ = !true by decide)) ?_
    refine mv_ rfl rfl rfl ?_
    refine FL.off rfl rfl ?_
    refine FL.off rfl rfl ?_
    refine FL.pur rfl rfl (p_pick_t rfl rfl) ?_
    refine FL.nilK ?_
    refine FC.cond_t rfl ?_
    refine FC.seq (FC.region ?_)
    refine mv_ rfl rfl rfl ?_
    refine mv_ rfl rfl rfl ?_
    refine mv_ rfl rfl rfl ?_
    refine mv_ rfl rfl rfl ?_
    refine FL.pur rfl rfl (p_eql rfl rfl (decide_eq_true rfl)) ?_
    refine FL.pur rfl rfl (p_pick_t rfl rfl) ?_
    refine mv_ rfl rfl rfl ?_
    refine FL.pur rfl rfl (fld36_0 rfl) ?_
    refine FL.val _ _ rfl rfl (p_load rfl Try.underlying5 rfl c0) ?_
    refine FL.pur rfl rfl (p_eql rfl rfl (decide_eq_true rfl)) ?_
    refine FL.pur rfl rfl (p_pick_t rfl rfl) ?_
    refine mv_ rfl rfl rfl ?_
    refine FL.pur rfl rfl (fld36_1 rfl) ?_
    refine FL.val _ _ rfl rfl (p_load rfl Try.underlying23 rfl c1) ?_
    refine FL.pur rfl rfl (p_len rfl Try.underlying23) ?_
    refine FL.pur rfl rfl (p_eql rfl rfl (decide_eq_true rfl)) ?_
    refine FL.pur rfl rfl (p_pick_t rfl rfl) ?_
    refine mv_ rfl rfl rfl ?_
    refine FL.pur rfl rfl (fld36_2 rfl) ?_
    refine FL.val _ _ rfl rfl (p_load rfl Try.underlying22 rfl c2) ?_
    refine FL.pur rfl rfl (p_len rfl Try.underlying22) ?_
    refine FL.pur rfl rfl (p_eql rfl rfl (decide_eq_true rfl)) ?_
    refine FL.pur rfl rfl (p_pick_t rfl rfl) ?_
    refine sg_ rfl rfl rfl ?_
    refine FL.nilK ?_
    refine FC.ret ?_
    repeat with_reducible first | refine thn_ret ?_ | refine blk_ret ?_ | refine nog_ret ?_
    exact ret1 Try.results4 rfl ⟨rfl, f1⟩
  · rw [he]
    refine FC.seq (FC.region ?_)
    refine mv_ rfl rfl rfl ?_
    refine FL.pur rfl rfl (p_eql rfl rfl (decide_eq_true rfl)) ?_
    refine mv_ rfl rfl rfl ?_
    refine mv_ rfl rfl rfl ?_
    refine FL.pur rfl rfl (p_lss rfl rfl (decide_eq_false (by omega))) ?_
    refine FL.pur rfl rfl (p_pick_t rfl rfl) ?_
    refine FL.nilK ?_
    refine FC.cond_f rfl (FC.skip (thn_normal ?_))
    refine FC.seq ?_
    refine FC.seq (FC.region ?_)
    refine mv_ rfl rfl rfl ?_
    refine FL.pur rfl rfl (p_neq rfl rfl (show _ = !false by decide)) ?_
    refine mv_ rfl rfl rfl ?_
    refine mv_ rfl rfl rfl ?_
    refine FL.pur rfl rfl (p_neq rfl rfl (show _ = !false by decide)) ?_
    refine FL.pur rfl rfl (p_pick_f rfl rfl) ?_
    refine FL.nilK ?_
    refine FC.cond_f rfl (FC.skip (thn_normal ?_))
    have kr := right_calls a (by omega) h1 (Nat.le_refl _) (by omega) (fun c hc => ⟨q1 c hc, h64 c hc⟩) ho
    refine FC.seq (FC.region ?_)
    refine mv_ rfl rfl rfl ?_
    refine mv_ rfl rfl rfl ?_
    refine mv_ rfl rfl rfl ?_
    refine mv_ rfl rfl rfl ?_
    refine FL.val _ _ rfl rfl (p_loadA rfl Try.underlying36 rfl z1 inf36_size) ?_
    refine FL.call rfl rfl (p_call Try.func22 rfl rfl rfl) (kr) ?_
    rintro e_ w_ ⟨rfl, f6⟩
    refine ⟨_, rfl, ?_⟩
    refine FL.pur rfl rfl (p_pick_t rfl rfl) ?_
    refine sg_ rfl rfl rfl ?_
    refine FL.nilK ?_
    refine FC.ret ?_
    repeat with_reducible first | refine thn_ret ?_ | refine blk_ret ?_ | refine nog_ret ?_
    exact ret1 Try.results4 rfl ⟨rfl, f1.go f6⟩
theorem answers_row (W : World) (a0 : Int) (w0 : -9223372036854775808 ≤ a0 ∧ a0 < 9223372036854775808) {v1 : Value} {l1 : List (List Int)} (k1 : Rws W W.heap.size v1 l1) (z1 : Sized l1) (b1 : ∀ c ∈ l1, Small64 c) (a2 : Int) (w2 : -9223372036854775808 ≤ a2 ∧ a2 < 9223372036854775808) :
    Calls Try.prog 4 #[.int .i64 a0, v1, .int .i64 a2] W fun e w' => e = .returned (.bool true) ∧ Below W.heap.size W w' := (answers_law a0 a2 w0 (Nat.le_refl _) k1 z1 b1).mono fun _ _ ⟨h1, h2⟩ => ⟨h1, h2.below' fun _ h => h.elim⟩
end
end Go.Proofs.Ytcahhbcehnbdkaa.Sv

/- The walk of SolveNames. -/
namespace Go.Proofs.Ytcahhbcehnbdkaa.Sv
open Go.RowKit Go.Proofs.YtcahhbcehnbdkaaW.PrintWords Go.Proofs.YtcahhbcehnbdkaaW.PrintLast Go.Proofs.Ytcahhbcehnbdkaa.Eng
section
variable {w w' : World} {B b : Nat} {P F : Nat → Prop} {v u mv pv : Value} {cs ps : List (List Int)} {bs : List Bool} {a limit ans err : Int}
theorem sol_bad (h : SolR a cs limit w P ans mv pv err) (hc : checkV a cs ≠ 0) : err = checkV a cs := by
  rcases h with ⟨h | h, _⟩ | ⟨h, _⟩
  · exact h.2
  · exact absurd h.1 hc
  · exact absurd h hc
theorem sol_arg (h : SolR a cs limit w P ans mv pv err) (hc : checkV a cs = 0) (hl : limit < 0) : err = 2 := by
  rcases h with ⟨h | h, _⟩ | ⟨_, h, _⟩
  · exact absurd hc h.1
  · exact h.2.2
  · omega
theorem sol_ok (h : SolR a cs limit w P ans mv pv err) (hc : checkV a cs = 0) (hl : 0 ≤ limit) : err = 0 ∧ OutR cs (a + 1).toNat (decide (a ≤ 14)) w P ans mv pv := by
  rcases h with ⟨h | h, _⟩ | ⟨_, _, h⟩
  · exact absurd hc h.1
  · omega
  · exact h
theorem nil_rws (w : World) : Rws w w.heap.size (.slice none 0 0) [] := ⟨none, 0, rfl, fun i hi => absurd hi (Nat.not_lt_zero _)⟩
theorem lit1 (w : World) (c : List Int) {cells : Array Value} (hc : cells = (nums .i64 c).toArray) {n : Nat} (hn : n = c.length) :
    ∃ w', w' = (w.alloc (.cells cells 3)).alloc (.cells #[.slice (some ⟨w.heap.size, 0, none⟩) n n] 41) ∧ Rws w' w'.heap.size (.slice (some ⟨(w.alloc (.cells cells 3)).heap.size, 0, none⟩) 1 1) [c] ∧ Fr (fun _ => False) w w' := by
  subst hc hn
  refine ⟨_, rfl, ?_, ((Fr.refl _ w).alloc _).alloc _⟩
  have r1 : RowP (w.alloc (.cells (nums .i64 c).toArray 3)) (fun _ => True) (.slice (some ⟨w.heap.size, 0, none⟩) c.length c.length) c := rowP_lit (heap_alloc_new w _) trivial
  obtain ⟨w1, hw1⟩ : ∃ w1, w1 = w.alloc (.cells (nums .i64 c).toArray 3) := ⟨_, rfl⟩
  rw [← hw1] at r1 ⊢
  have r1 := r1.fr ((Fr.refl (fun _ => False) w1).alloc (.cells #[.slice (some ⟨w.heap.size, 0, none⟩) c.length c.length] 41)) fun _ _ h => h
  have : RwsP (w1.alloc (.cells #[.slice (some ⟨w.heap.size, 0, none⟩) c.length c.length] 41)) (fun _ => True) (.slice (some ⟨w1.heap.size, 0, none⟩) 1 1) [c] := ⟨_, _, rfl, fun i hi => by
    have hi : i < 1 := hi
    obtain rfl : i = 0 := by omega
    exact ⟨_, _, rfl, trivial, cell_row (heap_alloc_new w1 _) rfl, r1⟩⟩
  exact this.rws
theorem lit2 (w : World) (c d : List Int) {cells cells' : Array Value} (hc : cells = (nums .i64 c).toArray) (hd : cells' = (nums .i64 d).toArray) {n m : Nat} (hn : n = c.length) (hm : m = d.length) :
    ∃ w', w' = ((w.alloc (.cells cells 3)).alloc (.cells cells' 3)).alloc (.cells #[.slice (some ⟨w.heap.size, 0, none⟩) n n, .slice (some ⟨(w.alloc (.cells cells 3)).heap.size, 0, none⟩) m m] 41) ∧ Rws w' w'.heap.size (.slice (some ⟨((w.alloc (.cells cells 3)).alloc (.cells cells' 3)).heap.size, 0, none⟩) 2 2) [c, d] ∧ Fr (fun _ => False) w w' := by
  subst hc hn hd hm
  refine ⟨_, rfl, ?_, (((Fr.refl _ w).alloc _).alloc _).alloc _⟩
  have r1 : RowP (w.alloc (.cells (nums .i64 c).toArray 3)) (fun _ => True) (.slice (some ⟨w.heap.size, 0, none⟩) c.length c.length) c := rowP_lit (heap_alloc_new w _) trivial
  obtain ⟨w1, hw1⟩ : ∃ w1, w1 = w.alloc (.cells (nums .i64 c).toArray 3) := ⟨_, rfl⟩
  rw [← hw1] at r1 ⊢
  have r2 : RowP (w1.alloc (.cells (nums .i64 d).toArray 3)) (fun _ => True) (.slice (some ⟨w1.heap.size, 0, none⟩) d.length d.length) d := rowP_lit (heap_alloc_new w1 _) trivial
  have r1 := r1.fr ((Fr.refl (fun _ => False) w1).alloc (.cells (nums .i64 d).toArray 3)) fun _ _ h => h
  obtain ⟨w2, hw2⟩ : ∃ w2, w2 = w1.alloc (.cells (nums .i64 d).toArray 3) := ⟨_, rfl⟩
  rw [← hw2] at r1 r2 ⊢
  have f3 := (Fr.refl (fun _ => False) w2).alloc (.cells #[.slice (some ⟨w.heap.size, 0, none⟩) c.length c.length, .slice (some ⟨w1.heap.size, 0, none⟩) d.length d.length] 41)
  have r1 := r1.fr f3 fun _ _ h => h
  have r2 := r2.fr f3 fun _ _ h => h
  have : RwsP (w2.alloc (.cells #[.slice (some ⟨w.heap.size, 0, none⟩) c.length c.length, .slice (some ⟨w1.heap.size, 0, none⟩) d.length d.length] 41)) (fun _ => True) (.slice (some ⟨w2.heap.size, 0, none⟩) 2 2) [c, d] := ⟨_, _, rfl, fun i hi => by
    have hi : i < 2 := hi
    rcases (show i = 0 ∨ i = 1 by omega) with rfl | rfl
    · exact ⟨_, _, rfl, trivial, cell_row (heap_alloc_new w2 _) rfl, r1⟩
    · exact ⟨_, _, rfl, trivial, cell_row (heap_alloc_new w2 _) rfl, r2⟩⟩
  exact this.rws
theorem made22 (w : World) (n : Nat) (hn : n ≤ 9223372036854775807) : Rws (w.alloc (.cells (madeCells #[.slice none 0 0] n) 41)) (w.alloc (.cells (madeCells #[.slice none 0 0] n) 41)).heap.size (.slice (some ⟨w.heap.size, 0, none⟩) n n) (List.replicate n []) := by
  have ho := own_made (w := w.alloc (.cells (madeCells #[.slice none 0 0] n) 41)) (B := 0) (heap_alloc_new w _) (Nat.zero_le _) hn
  have : RwsP (w.alloc (.cells (madeCells #[.slice none 0 0] n) 41)) (fun _ => True) (.slice (some ⟨w.heap.size, 0, none⟩) n n) (List.replicate n []) := ⟨_, n, by rw [List.length_replicate], fun i hi => by
    rw [List.length_replicate] at hi
    refine ⟨_, .slice none 0 0, rfl, trivial, ho.cells (g := w.heap.size) rfl i _ (by simp [hi]), ?_⟩
    have : (List.replicate n ([] : List Int)).getD i [] = [] := by simp [List.getD_eq_getElem?_getD, List.getElem?_replicate, hi]
    rw [this]
    exact ⟨none, 0, rfl, fun j hj => absurd hj (Nat.not_lt_zero _)⟩⟩
  exact this.rws
theorem made41 (w : World) (n : Nat) (hn : n ≤ 9223372036854775807) : ∃ w', w' = (w.alloc (.cells (madeCells #[.int .i64 0] n) 3)).alloc (.cells #[.slice (some ⟨w.heap.size, 0, none⟩) n n] 41) ∧ Rws w' w'.heap.size (.slice (some ⟨(w.alloc (.cells (madeCells #[.int .i64 0] n) 3)).heap.size, 0, none⟩) 1 1) [List.replicate n 0] ∧ Fr (fun _ => False) w w' := by
  have h := lit1 w (List.replicate n 0) (cells := madeCells #[.int .i64 0] n) (by
    apply Array.toList_inj.1
    rw [toList_madeCells_one]
    simp [nums]) (n := n) (by simp)
  exact h
theorem never_unsat : ∀ bs : List Bool, ¬ Sat [[]] bs := fun bs h => by
  obtain ⟨l, hl, _⟩ := h.at (List.mem_singleton.2 rfl)
  cases hl
theorem both_unsat : ∀ bs : List Bool, bs.length = 1 → ¬ Sat [[1], [-1]] bs
  | [x], _ => by cases x <;> decide
theorem odd_model : ∀ bs : List Bool, bs.length = 1 → Sat [[1, 1, -1], [-1, -1]] bs → bs = [false]
  | [x], _, h => by cases x <;> first | rfl | exact absurd h (by decide)
theorem both_ref : RefSpec 1 [[1], [-1]] [[1, -1], []] := by
  refine ⟨by decide, by decide, by decide, by decide, rfl, fun i hi => ?_⟩
  have hi : i < 2 := hi
  rcases (show i = 0 ∨ i = 1 by omega) with rfl | rfl
  · exact .inl ⟨1, by decide, by decide⟩
  · refine .inr ⟨[-1], by decide, fun m hm => ?_⟩
    rw [List.mem_singleton.1 hm]
    exact .unit (c := [1]) (by decide) (by decide) fun k hk hne => absurd (List.mem_singleton.1 hk) hne
theorem no_ref (h : Sat cs bs) (hl : (bs.length : Int) = a) {x : Bool} (hx : x = true ↔ RefSpec a cs ps) : x = false := Bool.eq_false_iff.2 fun e => (hx.1 e).none hl h
theorem brow_lit (w : World) (x : Bool) : BRow (w.alloc (.cells #[.bool x] 4)) (w.alloc (.cells #[.bool x] 4)).heap.size (.slice (some ⟨w.heap.size, 0, none⟩) 1 1) [x] := ⟨_, 1, rfl, fun i hi => by
  have hi : i < 1 := hi
  obtain rfl : i = 0 := by omega
  have h := heap_alloc_new w (.cells #[.bool x] 4)
  exact ⟨_, rfl, (Array.getElem?_eq_some_iff.1 h).1, cell_row h rfl⟩⟩
set_option maxHeartbeats 4000000 in
theorem names_law (wp : World) : Calls Try.prog 8 #[] wp fun e w' => e = .returned (.bool true) ∧ Fr (fun _ => False) wp w' := by
  refine calls_of_FC (N := 260) (vs := []) Try.func8 rfl Try.ntmps8 (Nat.le_of_ble_eq_true rfl) ?_
  refine FC.seq (FC.region ?_)
  refine sg_ rfl rfl rfl ?_
  refine FL.nilK ?_
  have f1 : Fr (fun _ => False) wp wp := Fr.refl _ _
  refine FC.seq (FC.region ?_)
  refine FL.call rfl rfl (p_call Try.func21 rfl rfl rfl) (solve_calls 5001 0 (nil_rws _) (Nat.le_refl _) (by decide) (by decide)) ?_
  rintro e_ w_ ⟨ans, mv, pv, err, rfl, hso, f3⟩
  refine ⟨_, rfl, ?_⟩
  refine mv_ rfl rfl rfl ?_
  refine FL.pur rfl rfl (p_extract rfl rfl) ?_
  refine FL.pur rfl rfl (p_extract rfl rfl) ?_
  refine FL.val _ _ rfl rfl (p_allocA inf36_eq inf36_zero) ?_
  refine FL.sto _ rfl (p_storeA rfl rfl (heap_alloc_new _ _) inf36_size rfl (all3' rfl hso.cell.1 hso.cell.2)) ?_
  refine sg_ rfl rfl rfl ?_
  refine FL.nilK ?_
  obtain ⟨w6, b1, hw6, hb1, z1, f4⟩ := put_name w_ ans mv pv
  rw [← hw6, ← hb1]
  clear hw6 hb1
  have hck : err = 4 := (sol_bad hso (by decide)).trans (show checkV _ _ = 4 by decide)
  subst hck
  have f3 := (f3.go f4)
  have f1 := f1.go f3
  clear f3 f4 hso z1
  obtain ⟨wp, hwp⟩ : ∃ wp, wp = w6 := ⟨_, rfl⟩
  rw [← hwp] at f1 ⊢
  clear hwp
  refine FC.sub [(2, .int .i64 4)] ⟨rfl, trivial⟩ ?_
  refine FC.seq (FC.region ?_)
  refine FL.val _ _ rfl rfl (p_make (n := 20001) rfl Try.underlying22 i22 rfl (by decide) (by decide)) ?_
  have l1 := made22 wp 20001 (by decide)
  have l2 : Fr (fun _ => False) wp (wp.alloc (.cells (madeCells #[.slice none 0 0] 20001) 41)) := (Fr.refl _ _).alloc _
  obtain ⟨w8, hw8⟩ : ∃ w8, w8 = wp.alloc (.cells (madeCells #[.slice none 0 0] 20001) 41) := ⟨_, rfl⟩
  rw [← hw8] at l1 l2
  rw [← hw8]
  refine FL.call rfl rfl (p_call Try.func21 rfl rfl rfl) (solve_calls 2 0 (l1) (Nat.le_refl _) (by rw [List.length_replicate]; decide) (fun c hc => by rw [(List.mem_replicate.1 hc).2]; decide)) ?_
  rintro e_ w_ ⟨ans, mv, pv, err, rfl, hso, f3⟩
  refine ⟨_, rfl, ?_⟩
  refine mv_ rfl rfl rfl ?_
  refine FL.pur rfl rfl (p_extract rfl rfl) ?_
  refine FL.pur rfl rfl (p_extract rfl rfl) ?_
  refine FL.val _ _ rfl rfl (p_allocA inf36_eq inf36_zero) ?_
  refine FL.sto _ rfl (p_storeA rfl rfl (heap_alloc_new _ _) inf36_size rfl (all3' rfl hso.cell.1 hso.cell.2)) ?_
  refine sg_ rfl rfl rfl ?_
  refine FL.nilK ?_
  obtain ⟨w6, b3, hw6, hb1, z1, f4⟩ := put_name w_ ans mv pv
  rw [← hw6, ← hb1]
  clear hw6 hb1
  have hck := (show checkV 2 (List.replicate 20001 []) = 4 by unfold checkV; rw [if_pos (.inr (.inl (by rw [List.length_replicate]; decide)))])
  have hck : err = 4 := (sol_bad hso (by rw [hck]; decide)).trans hck
  subst hck
  have f3 := l2.go (f3.go f4)
  have f1 := f1.go f3
  clear f3 f4 hso z1 l1 l2 hw8
  obtain ⟨wp, hwp⟩ : ∃ wp, wp = w6 := ⟨_, rfl⟩
  rw [← hwp] at f1 ⊢
  clear hwp
  refine FC.sub [(2, .int .i64 4), (4, .int .i64 4)] ⟨rfl, rfl, trivial⟩ ?_
  refine FC.seq (FC.region ?_)
  refine FL.call rfl rfl (p_call Try.func21 rfl rfl rfl) (solve_calls (-1) 0 (nil_rws _) (Nat.le_refl _) (by decide) (by decide)) ?_
  rintro e_ w_ ⟨ans, mv, pv, err, rfl, hso, f3⟩
  refine ⟨_, rfl, ?_⟩
  refine mv_ rfl rfl rfl ?_
  refine FL.pur rfl rfl (p_extract rfl rfl) ?_
  refine FL.pur rfl rfl (p_extract rfl rfl) ?_
  refine FL.val _ _ rfl rfl (p_allocA inf36_eq inf36_zero) ?_
  refine FL.sto _ rfl (p_storeA rfl rfl (heap_alloc_new _ _) inf36_size rfl (all3' rfl hso.cell.1 hso.cell.2)) ?_
  refine sg_ rfl rfl rfl ?_
  refine FL.nilK ?_
  obtain ⟨w6, b5, hw6, hb1, z1, f4⟩ := put_name w_ ans mv pv
  rw [← hw6, ← hb1]
  clear hw6 hb1
  have hck : err = 8 := (sol_bad hso (by decide)).trans (show checkV _ _ = 8 by decide)
  subst hck
  have f3 := (f3.go f4)
  have f1 := f1.go f3
  clear f3 f4 hso z1
  obtain ⟨wp, hwp⟩ : ∃ wp, wp = w6 := ⟨_, rfl⟩
  rw [← hwp] at f1 ⊢
  clear hwp
  refine FC.sub [(2, .int .i64 4), (4, .int .i64 4), (6, .int .i64 8)] ⟨rfl, rfl, rfl, trivial⟩ ?_
  refine FC.seq (FC.region ?_)
  refine FL.val _ _ rfl rfl (bld41 rfl rfl) ?_
  refine FL.val _ _ rfl rfl (bld22 rfl rfl) ?_
  obtain ⟨w8, hw8, l1, l2⟩ := lit1 wp [0] (cells := #[.int .i64 0]) rfl (n := 1) rfl
  rw [← hw8]
  refine FL.call rfl rfl (p_call Try.func21 rfl rfl rfl) (solve_calls 1 0 (l1) (Nat.le_refl _) (by decide) (by decide)) ?_
  rintro e_ w_ ⟨ans, mv, pv, err, rfl, hso, f3⟩
  refine ⟨_, rfl, ?_⟩
  refine mv_ rfl rfl rfl ?_
  refine FL.pur rfl rfl (p_extract rfl rfl) ?_
  refine FL.pur rfl rfl (p_extract rfl rfl) ?_
  refine FL.val _ _ rfl rfl (p_allocA inf36_eq inf36_zero) ?_
  refine FL.sto _ rfl (p_storeA rfl rfl (heap_alloc_new _ _) inf36_size rfl (all3' rfl hso.cell.1 hso.cell.2)) ?_
  refine sg_ rfl rfl rfl ?_
  refine FL.nilK ?_
  obtain ⟨w6, b7, hw6, hb1, z1, f4⟩ := put_name w_ ans mv pv
  rw [← hw6, ← hb1]
  clear hw6 hb1
  have hck : err = 8 := (sol_bad hso (by decide)).trans (show checkV _ _ = 8 by decide)
  subst hck
  have f3 := l2.go (f3.go f4)
  have f1 := f1.go f3
  clear f3 f4 hso z1 l1 l2 hw8
  obtain ⟨wp, hwp⟩ : ∃ wp, wp = w6 := ⟨_, rfl⟩
  rw [← hwp] at f1 ⊢
  clear hwp
  refine FC.sub [(2, .int .i64 4), (4, .int .i64 4), (6, .int .i64 8), (8, .int .i64 8)] ⟨rfl, rfl, rfl, rfl, trivial⟩ ?_
  refine FC.seq (FC.region ?_)
  refine FL.val _ _ rfl rfl (bld41 rfl rfl) ?_
  refine FL.val _ _ rfl rfl (bld22 rfl rfl) ?_
  obtain ⟨w8, hw8, l1, l2⟩ := lit1 wp [2] (cells := #[.int .i64 2]) rfl (n := 1) rfl
  rw [← hw8]
  refine FL.call rfl rfl (p_call Try.func21 rfl rfl rfl) (solve_calls 1 0 (l1) (Nat.le_refl _) (by decide) (by decide)) ?_
  rintro e_ w_ ⟨ans, mv, pv, err, rfl, hso, f3⟩
  refine ⟨_, rfl, ?_⟩
  refine mv_ rfl rfl rfl ?_
  refine FL.pur rfl rfl (p_extract rfl rfl) ?_
  refine FL.pur rfl rfl (p_extract rfl rfl) ?_
  refine FL.val _ _ rfl rfl (p_allocA inf36_eq inf36_zero) ?_
  refine FL.sto _ rfl (p_storeA rfl rfl (heap_alloc_new _ _) inf36_size rfl (all3' rfl hso.cell.1 hso.cell.2)) ?_
  refine sg_ rfl rfl rfl ?_
  refine FL.nilK ?_
  obtain ⟨w6, b9, hw6, hb1, z1, f4⟩ := put_name w_ ans mv pv
  rw [← hw6, ← hb1]
  clear hw6 hb1
  have hck : err = 8 := (sol_bad hso (by decide)).trans (show checkV _ _ = 8 by decide)
  subst hck
  have f3 := l2.go (f3.go f4)
  have f1 := f1.go f3
  clear f3 f4 hso z1 l1 l2 hw8
  obtain ⟨wp, hwp⟩ : ∃ wp, wp = w6 := ⟨_, rfl⟩
  rw [← hwp] at f1 ⊢
  clear hwp
  refine FC.sub [(2, .int .i64 4), (4, .int .i64 4), (6, .int .i64 8), (8, .int .i64 8), (10, .int .i64 8)] ⟨rfl, rfl, rfl, rfl, rfl, trivial⟩ ?_
  refine FC.seq (FC.region ?_)
  refine FL.val _ _ rfl rfl (bld41 rfl rfl) ?_
  refine FL.val _ _ rfl rfl (bld22 rfl rfl) ?_
  obtain ⟨w8, hw8, l1, l2⟩ := lit1 wp [-2] (cells := #[.int .i64 (-2)]) rfl (n := 1) rfl
  rw [← hw8]
  refine FL.call rfl rfl (p_call Try.func21 rfl rfl rfl) (solve_calls 1 (-1) (l1) (Nat.le_refl _) (by decide) (by decide)) ?_
  rintro e_ w_ ⟨ans, mv, pv, err, rfl, hso, f3⟩
  refine ⟨_, rfl, ?_⟩
  refine mv_ rfl rfl rfl ?_
  refine FL.pur rfl rfl (p_extract rfl rfl) ?_
  refine FL.pur rfl rfl (p_extract rfl rfl) ?_
  refine FL.val _ _ rfl rfl (p_allocA inf36_eq inf36_zero) ?_
  refine FL.sto _ rfl (p_storeA rfl rfl (heap_alloc_new _ _) inf36_size rfl (all3' rfl hso.cell.1 hso.cell.2)) ?_
  refine sg_ rfl rfl rfl ?_
  refine FL.nilK ?_
  obtain ⟨w6, b11, hw6, hb1, z1, f4⟩ := put_name w_ ans mv pv
  rw [← hw6, ← hb1]
  clear hw6 hb1
  have hck : err = 8 := (sol_bad hso (by decide)).trans (show checkV _ _ = 8 by decide)
  subst hck
  have f3 := l2.go (f3.go f4)
  have f1 := f1.go f3
  clear f3 f4 hso z1 l1 l2 hw8
  obtain ⟨wp, hwp⟩ : ∃ wp, wp = w6 := ⟨_, rfl⟩
  rw [← hwp] at f1 ⊢
  clear hwp
  refine FC.sub [(2, .int .i64 4), (4, .int .i64 4), (6, .int .i64 8), (8, .int .i64 8), (10, .int .i64 8), (12, .int .i64 8)] ⟨rfl, rfl, rfl, rfl, rfl, rfl, trivial⟩ ?_
  refine FC.seq (FC.region ?_)
  refine FL.call rfl rfl (p_call Try.func21 rfl rfl rfl) (solve_calls 1 (-1) (nil_rws _) (Nat.le_refl _) (by decide) (by decide)) ?_
  rintro e_ w_ ⟨ans, mv, pv, err, rfl, hso, f3⟩
  refine ⟨_, rfl, ?_⟩
  refine mv_ rfl rfl rfl ?_
  refine FL.pur rfl rfl (p_extract rfl rfl) ?_
  refine FL.pur rfl rfl (p_extract rfl rfl) ?_
  refine FL.val _ _ rfl rfl (p_allocA inf36_eq inf36_zero) ?_
  refine FL.sto _ rfl (p_storeA rfl rfl (heap_alloc_new _ _) inf36_size rfl (all3' rfl hso.cell.1 hso.cell.2)) ?_
  refine sg_ rfl rfl rfl ?_
  refine FL.nilK ?_
  obtain ⟨w6, b13, hw6, hb1, z1, f4⟩ := put_name w_ ans mv pv
  rw [← hw6, ← hb1]
  clear hw6 hb1
  have hck : err = 2 := sol_arg hso (by decide) (by decide)
  subst hck
  have f3 := (f3.go f4)
  have f1 := f1.go f3
  clear f3 f4 hso z1
  obtain ⟨wp, hwp⟩ : ∃ wp, wp = w6 := ⟨_, rfl⟩
  rw [← hwp] at f1 ⊢
  clear hwp
  refine FC.sub [(2, .int .i64 4), (4, .int .i64 4), (6, .int .i64 8), (8, .int .i64 8), (10, .int .i64 8), (12, .int .i64 8), (14, .int .i64 2)] ⟨rfl, rfl, rfl, rfl, rfl, rfl, rfl, trivial⟩ ?_
  refine FC.seq (FC.region ?_)
  refine FL.call rfl rfl (p_call Try.func21 rfl rfl rfl) (solve_calls 0 0 (nil_rws _) (Nat.le_refl _) (by decide) (by decide)) ?_
  rintro e_ w_ ⟨ans, mv, pv, err, rfl, hso, f3⟩
  refine ⟨_, rfl, ?_⟩
  refine mv_ rfl rfl rfl ?_
  refine FL.pur rfl rfl (p_extract rfl rfl) ?_
  refine FL.pur rfl rfl (p_extract rfl rfl) ?_
  refine FL.val _ _ rfl rfl (p_allocA inf36_eq inf36_zero) ?_
  refine FL.sto _ rfl (p_storeA rfl rfl (heap_alloc_new _ _) inf36_size rfl (all3' rfl hso.cell.1 hso.cell.2)) ?_
  refine sg_ rfl rfl rfl ?_
  refine FL.nilK ?_
  obtain ⟨w6, b15, hw6, hb1, z1, f4⟩ := put_name w_ ans mv pv
  rw [← hw6, ← hb1]
  clear hw6 hb1
  obtain ⟨hck, ho⟩ := sol_ok hso (by decide) (by decide)
  subst hck
  have ho := ho.fr f4 fun _ _ h => h
  obtain ⟨rfl, A15, c15, rfl⟩ : ans = 1 ∧ ∃ A c, mv = .slice A 0 c := by
    rcases ho with ⟨e, _, bs, ⟨A, c, e2, _⟩, e3, _⟩ | ⟨_, _, ps, _, h, _⟩ | ⟨_, h, _⟩
    · have e3 : bs.length = 0 := e3
      exact ⟨e, A, c, by rw [e2, e3]⟩
    · exact absurd (show Sat [] [] by decide) (h.none rfl)
    · exact absurd h.1 (by decide)
  have d0 : w6.cell? ⟨b15, 0, none⟩ = some (.int .u8 1) := cell_row z1 rfl
  have d1 : w6.cell? ⟨b15, 1, none⟩ = some (.slice A15 0 c15) := cell_row z1 rfl
  have f3 := (f3.go f4)
  have f1 := f1.go f3
  clear f3 f4 hso z1 ho
  obtain ⟨wp, hwp⟩ : ∃ wp, wp = w6 := ⟨_, rfl⟩
  rw [← hwp] at f1  d0 d1 ⊢
  clear hwp
  refine FC.sub [(2, .int .i64 4), (4, .int .i64 4), (6, .int .i64 8), (8, .int .i64 8), (10, .int .i64 8), (12, .int .i64 8), (14, .int .i64 2), (16, .int .i64 0), (15, .pointer (some ⟨b15, 0, none⟩))] ⟨rfl, rfl, rfl, rfl, rfl, rfl, rfl, rfl, rfl, trivial⟩ ?_
  refine FC.seq (FC.region ?_)
  refine FL.val _ _ rfl rfl bld41_0 ?_
  refine FL.val _ _ rfl rfl (bld22 rfl rfl) ?_
  obtain ⟨w8, hw8, l1, l2⟩ := lit1 wp [] (cells := #[]) rfl (n := 0) rfl
  rw [← hw8]
  refine FL.call rfl rfl (p_call Try.func21 rfl rfl rfl) (solve_calls 0 0 (l1) (Nat.le_refl _) (by decide) (by decide)) ?_
  rintro e_ w_ ⟨ans, mv, pv, err, rfl, hso, f3⟩
  refine ⟨_, rfl, ?_⟩
  refine mv_ rfl rfl rfl ?_
  refine FL.pur rfl rfl (p_extract rfl rfl) ?_
  refine FL.pur rfl rfl (p_extract rfl rfl) ?_
  refine FL.val _ _ rfl rfl (p_allocA inf36_eq inf36_zero) ?_
  refine FL.sto _ rfl (p_storeA rfl rfl (heap_alloc_new _ _) inf36_size rfl (all3' rfl hso.cell.1 hso.cell.2)) ?_
  refine sg_ rfl rfl rfl ?_
  refine FL.nilK ?_
  obtain ⟨w6, b17, hw6, hb1, z1, f4⟩ := put_name w_ ans mv pv
  rw [← hw6, ← hb1]
  clear hw6 hb1
  obtain ⟨hck, ho⟩ := sol_ok hso (by decide) (by decide)
  subst hck
  have ho := ho.fr f4 fun _ _ h => h
  obtain ⟨rfl, A17, n17, c17, rfl, hn17⟩ : ans = 2 ∧ ∃ A n c, pv = .slice A n c ∧ 0 < n := by
    rcases ho with ⟨_, _, bs, _, _, h⟩ | ⟨e, _, ps, ⟨⟨A, c, e2, _⟩, _⟩, h, _⟩ | ⟨_, h, _⟩
    · exact absurd h (never_unsat bs)
    · exact ⟨e, A, _, c, e2, h.2.2.2.1⟩
    · exact absurd h.1 (by decide)
  have d2 : w6.cell? ⟨b17, 0, none⟩ = some (.int .u8 2) := cell_row z1 rfl
  have d3 : w6.cell? ⟨b17, 2, none⟩ = some (.slice A17 n17 c17) := cell_row z1 rfl
  have f3 := l2.go (f3.go f4)
  have d0 := f3.cell d0 fun h => h
  have d1 := f3.cell d1 fun h => h
  have f1 := f1.go f3
  clear f3 f4 hso z1 ho l1 l2 hw8
  obtain ⟨wp, hwp⟩ : ∃ wp, wp = w6 := ⟨_, rfl⟩
  rw [← hwp] at f1  d0 d1 d2 d3 ⊢
  clear hwp
  refine FC.sub [(2, .int .i64 4), (4, .int .i64 4), (6, .int .i64 8), (8, .int .i64 8), (10, .int .i64 8), (12, .int .i64 8), (14, .int .i64 2), (16, .int .i64 0), (15, .pointer (some ⟨b15, 0, none⟩)), (18, .int .i64 0), (17, .pointer (some ⟨b17, 0, none⟩))] ⟨rfl, rfl, rfl, rfl, rfl, rfl, rfl, rfl, rfl, rfl, rfl, trivial⟩ ?_
  refine FC.seq (FC.region ?_)
  refine FL.val _ _ rfl rfl (bld41 rfl rfl) ?_
  refine FL.val _ _ rfl rfl (bld41 rfl rfl) ?_
  refine FL.val _ _ rfl rfl (p_build2 rfl rfl Try.underlying22 inf41_eq inf41_size inf41_zero rfl rfl rfl) ?_
  obtain ⟨w8, hw8, l1, l2⟩ := lit2 wp [1] [-1] (cells := #[.int .i64 1]) (cells' := #[.int .i64 (-1)]) rfl rfl (n := 1) (m := 1) rfl rfl
  rw [← hw8]
  refine FL.call rfl rfl (p_call Try.func21 rfl rfl rfl) (solve_calls 1 0 (l1) (Nat.le_refl _) (by decide) (by decide)) ?_
  rintro e_ w_ ⟨ans, mv, pv, err, rfl, hso, f3⟩
  refine ⟨_, rfl, ?_⟩
  refine mv_ rfl rfl rfl ?_
  refine FL.pur rfl rfl (p_extract rfl rfl) ?_
  refine FL.pur rfl rfl (p_extract rfl rfl) ?_
  refine FL.val _ _ rfl rfl (p_allocA inf36_eq inf36_zero) ?_
  refine FL.sto _ rfl (p_storeA rfl rfl (heap_alloc_new _ _) inf36_size rfl (all3' rfl hso.cell.1 hso.cell.2)) ?_
  refine sg_ rfl rfl rfl ?_
  refine FL.nilK ?_
  obtain ⟨w6, b19, hw6, hb1, z1, f4⟩ := put_name w_ ans mv pv
  rw [← hw6, ← hb1]
  clear hw6 hb1
  obtain ⟨hck, ho⟩ := sol_ok hso (by decide) (by decide)
  subst hck
  have ho := ho.fr f4 fun _ _ h => h
  obtain rfl : ans = 2 := by
    rcases ho with ⟨_, _, bs, _, e3, h⟩ | ⟨e, _⟩ | ⟨_, h, _⟩
    · exact absurd h (both_unsat bs e3)
    · exact e
    · exact absurd h.1 (by decide)
  have d4 : w6.cell? ⟨b19, 0, none⟩ = some (.int .u8 2) := cell_row z1 rfl
  have f3 := l2.go (f3.go f4)
  have d0 := f3.cell d0 fun h => h
  have d1 := f3.cell d1 fun h => h
  have d2 := f3.cell d2 fun h => h
  have d3 := f3.cell d3 fun h => h
  have f1 := f1.go f3
  clear f3 f4 hso z1 ho l1 l2 hw8
  obtain ⟨wp, hwp⟩ : ∃ wp, wp = w6 := ⟨_, rfl⟩
  rw [← hwp] at f1  d0 d1 d2 d3 d4 ⊢
  clear hwp
  refine FC.sub [(2, .int .i64 4), (4, .int .i64 4), (6, .int .i64 8), (8, .int .i64 8), (10, .int .i64 8), (12, .int .i64 8), (14, .int .i64 2), (16, .int .i64 0), (15, .pointer (some ⟨b15, 0, none⟩)), (18, .int .i64 0), (17, .pointer (some ⟨b17, 0, none⟩)), (20, .int .i64 0), (19, .pointer (some ⟨b19, 0, none⟩))] ⟨rfl, rfl, rfl, rfl, rfl, rfl, rfl, rfl, rfl, rfl, rfl, rfl, rfl, trivial⟩ ?_
  refine FC.seq (FC.region ?_)
  refine FL.val _ _ rfl rfl (p_build3 rfl rfl rfl Try.underlying41 inf3_eq inf3_size inf3_zero rfl rfl rfl rfl) ?_
  refine FL.val _ _ rfl rfl (p_build2 rfl rfl Try.underlying41 inf3_eq inf3_size inf3_zero rfl rfl rfl) ?_
  refine FL.val _ _ rfl rfl (p_build2 rfl rfl Try.underlying22 inf41_eq inf41_size inf41_zero rfl rfl rfl) ?_
  obtain ⟨w8, hw8, l1, l2⟩ := lit2 wp [1, 1, -1] [-1, -1] (cells := #[.int .i64 1, .int .i64 1, .int .i64 (-1)]) (cells' := #[.int .i64 (-1), .int .i64 (-1)]) rfl rfl (n := 3) (m := 2) rfl rfl
  rw [← hw8]
  refine FL.call rfl rfl (p_call Try.func21 rfl rfl rfl) (solve_calls 1 0 (l1) (Nat.le_refl _) (by decide) (by decide)) ?_
  rintro e_ w_ ⟨ans, mv, pv, err, rfl, hso, f3⟩
  refine ⟨_, rfl, ?_⟩
  refine mv_ rfl rfl rfl ?_
  refine FL.pur rfl rfl (p_extract rfl rfl) ?_
  refine FL.pur rfl rfl (p_extract rfl rfl) ?_
  refine FL.val _ _ rfl rfl (p_allocA inf36_eq inf36_zero) ?_
  refine FL.sto _ rfl (p_storeA rfl rfl (heap_alloc_new _ _) inf36_size rfl (all3' rfl hso.cell.1 hso.cell.2)) ?_
  refine sg_ rfl rfl rfl ?_
  refine FL.nilK ?_
  obtain ⟨w6, b21, hw6, hb1, z1, f4⟩ := put_name w_ ans mv pv
  rw [← hw6, ← hb1]
  clear hw6 hb1
  obtain ⟨hck, ho⟩ := sol_ok hso (by decide) (by decide)
  subst hck
  have ho := ho.fr f4 fun _ _ h => h
  obtain ⟨rfl, A21, c21, rfl, x21⟩ : ans = 1 ∧ ∃ ad c, mv = .slice (some ad) 1 c ∧ w6.cell? (ad.add 0) = some (.bool false) := by
    rcases ho with ⟨e, _, bs, ⟨A, c, e2, hx⟩, e3, h⟩ | ⟨_, _, ps, _, h, _⟩ | ⟨_, h, _⟩
    · obtain rfl := odd_model bs e3 h
      obtain ⟨ad, e4, _, x⟩ := hx 0 (by decide)
      exact ⟨e, ad, c, by rw [e2, e4]; rfl, x⟩
    · exact absurd (show Sat [[1, 1, -1], [-1, -1]] [false] by decide) (h.none rfl)
    · exact absurd h.1 (by decide)
  have d5 : w6.cell? ⟨b21, 0, none⟩ = some (.int .u8 1) := cell_row z1 rfl
  have d6 : w6.cell? ⟨b21, 1, none⟩ = some (.slice (some A21) 1 c21) := cell_row z1 rfl
  have f3 := l2.go (f3.go f4)
  have d0 := f3.cell d0 fun h => h
  have d1 := f3.cell d1 fun h => h
  have d2 := f3.cell d2 fun h => h
  have d3 := f3.cell d3 fun h => h
  have d4 := f3.cell d4 fun h => h
  have f1 := f1.go f3
  clear f3 f4 hso z1 ho l1 l2 hw8
  obtain ⟨wp, hwp⟩ : ∃ wp, wp = w6 := ⟨_, rfl⟩
  rw [← hwp] at f1  d0 d1 d2 d3 d4 d5 d6 x21 ⊢
  clear hwp
  refine FC.sub [(2, .int .i64 4), (4, .int .i64 4), (6, .int .i64 8), (8, .int .i64 8), (10, .int .i64 8), (12, .int .i64 8), (14, .int .i64 2), (16, .int .i64 0), (15, .pointer (some ⟨b15, 0, none⟩)), (18, .int .i64 0), (17, .pointer (some ⟨b17, 0, none⟩)), (20, .int .i64 0), (19, .pointer (some ⟨b19, 0, none⟩)), (22, .int .i64 0), (21, .pointer (some ⟨b21, 0, none⟩))] ⟨rfl, rfl, rfl, rfl, rfl, rfl, rfl, rfl, rfl, rfl, rfl, rfl, rfl, rfl, rfl, trivial⟩ ?_
  refine FC.seq (FC.region ?_)
  refine FL.val _ _ rfl rfl (p_make (n := 5001) rfl Try.underlying41 i41 rfl (by decide) (by decide)) ?_
  refine FL.val _ _ rfl rfl (bld22 rfl rfl) ?_
  obtain ⟨w8, hw8, l1, l2⟩ := made41 wp 5001 (by decide)
  rw [← hw8]
  refine FL.call rfl rfl (p_call Try.func21 rfl rfl rfl) (solve_calls 1 0 (l1) (Nat.le_refl _) (by decide) (fun c hc => by rw [List.mem_singleton.1 hc, List.length_replicate]; decide)) ?_
  rintro e_ w_ ⟨ans, mv, pv, err, rfl, hso, f3⟩
  refine ⟨_, rfl, ?_⟩
  refine mv_ rfl rfl rfl ?_
  refine FL.pur rfl rfl (p_extract rfl rfl) ?_
  refine FL.pur rfl rfl (p_extract rfl rfl) ?_
  refine FL.val _ _ rfl rfl (p_allocA inf36_eq inf36_zero) ?_
  refine FL.sto _ rfl (p_storeA rfl rfl (heap_alloc_new _ _) inf36_size rfl (all3' rfl hso.cell.1 hso.cell.2)) ?_
  refine sg_ rfl rfl rfl ?_
  refine FL.nilK ?_
  obtain ⟨w6, b23, hw6, hb1, z1, f4⟩ := put_name w_ ans mv pv
  rw [← hw6, ← hb1]
  clear hw6 hb1
  have hck := (show checkV 1 [List.replicate 5001 0] = 4 by unfold checkV; rw [if_pos (.inr (.inr (List.any_eq_true.2 ⟨_, List.mem_singleton.2 rfl, decide_eq_true (by rw [List.length_replicate]; decide)⟩)))])
  have hck : err = 4 := (sol_bad hso (by rw [hck]; decide)).trans hck
  subst hck
  have f3 := l2.go (f3.go f4)
  have d0 := f3.cell d0 fun h => h
  have d1 := f3.cell d1 fun h => h
  have d2 := f3.cell d2 fun h => h
  have d3 := f3.cell d3 fun h => h
  have d4 := f3.cell d4 fun h => h
  have d5 := f3.cell d5 fun h => h
  have d6 := f3.cell d6 fun h => h
  have x21 := f3.cell x21 fun h => h
  have f1 := f1.go f3
  clear f3 f4 hso z1 l1 l2 hw8
  obtain ⟨wp, hwp⟩ : ∃ wp, wp = w6 := ⟨_, rfl⟩
  rw [← hwp] at f1  d0 d1 d2 d3 d4 d5 d6 x21 ⊢
  clear hwp
  refine FC.sub [(2, .int .i64 4), (4, .int .i64 4), (6, .int .i64 8), (8, .int .i64 8), (10, .int .i64 8), (12, .int .i64 8), (14, .int .i64 2), (16, .int .i64 0), (15, .pointer (some ⟨b15, 0, none⟩)), (18, .int .i64 0), (17, .pointer (some ⟨b17, 0, none⟩)), (20, .int .i64 0), (19, .pointer (some ⟨b19, 0, none⟩)), (22, .int .i64 0), (21, .pointer (some ⟨b21, 0, none⟩)), (24, .int .i64 4)] ⟨rfl, rfl, rfl, rfl, rfl, rfl, rfl, rfl, rfl, rfl, rfl, rfl, rfl, rfl, rfl, rfl, trivial⟩ ?_
  refine FC.seq (FC.region ?_)
  refine mv_ rfl rfl rfl ?_
  refine FL.pur rfl rfl (p_eql rfl rfl (decide_eq_true rfl)) ?_
  refine mv_ rfl rfl rfl ?_
  refine mv_ rfl rfl rfl ?_
  refine FL.pur rfl rfl (p_eql rfl rfl (decide_eq_true rfl)) ?_
  refine FL.pur rfl rfl (p_pick_t rfl rfl) ?_
  refine mv_ rfl rfl rfl ?_
  refine mv_ rfl rfl rfl ?_
  refine FL.pur rfl rfl (p_eql rfl rfl (decide_eq_true rfl)) ?_
  refine FL.pur rfl rfl (p_pick_t rfl rfl) ?_
  refine mv_ rfl rfl rfl ?_
  refine mv_ rfl rfl rfl ?_
  refine FL.pur rfl rfl (p_eql rfl rfl (decide_eq_true rfl)) ?_
  refine FL.pur rfl rfl (p_pick_t rfl rfl) ?_
  refine mv_ rfl rfl rfl ?_
  refine mv_ rfl rfl rfl ?_
  refine FL.pur rfl rfl (p_eql rfl rfl (decide_eq_true rfl)) ?_
  refine FL.pur rfl rfl (p_pick_t rfl rfl) ?_
  refine mv_ rfl rfl rfl ?_
  refine mv_ rfl rfl rfl ?_
  refine FL.pur rfl rfl (p_eql rfl rfl (decide_eq_true rfl)) ?_
  refine FL.pur rfl rfl (p_pick_t rfl rfl) ?_
  refine mv_ rfl rfl rfl ?_
  refine mv_ rfl rfl rfl ?_
  refine FL.pur rfl rfl (p_eql rfl rfl (decide_eq_true rfl)) ?_
  refine FL.pur rfl rfl (p_pick_t rfl rfl) ?_
  refine mv_ rfl rfl rfl ?_
  refine mv_ rfl rfl rfl ?_
  refine FL.pur rfl rfl (p_eql rfl rfl (decide_eq_true rfl)) ?_
  refine FL.pur rfl rfl (p_pick_t rfl rfl) ?_
  refine sg_ rfl rfl rfl ?_
  refine FL.nilK ?_
  refine FC.sub [(16, .int .i64 0), (15, .pointer (some ⟨b15, 0, none⟩)), (18, .int .i64 0), (17, .pointer (some ⟨b17, 0, none⟩)), (20, .int .i64 0), (19, .pointer (some ⟨b19, 0, none⟩)), (22, .int .i64 0), (21, .pointer (some ⟨b21, 0, none⟩)), (25, .bool true)] ⟨rfl, rfl, rfl, rfl, rfl, rfl, rfl, rfl, rfl, trivial⟩ ?_
  refine FC.seq (FC.region ?_)
  refine mv_ rfl rfl rfl ?_
  refine FL.pur rfl rfl (p_eql rfl rfl (decide_eq_true rfl)) ?_
  refine mv_ rfl rfl rfl ?_
  refine FL.pur rfl rfl (fld36_0 rfl) ?_
  refine FL.val _ _ rfl rfl (p_load rfl Try.underlying5 rfl d0) ?_
  refine FL.pur rfl rfl (p_eql rfl rfl (decide_eq_true rfl)) ?_
  refine FL.pur rfl rfl (p_pick_t rfl rfl) ?_
  refine mv_ rfl rfl rfl ?_
  refine FL.pur rfl rfl (fld36_1 rfl) ?_
  refine FL.val _ _ rfl rfl (p_load rfl Try.underlying23 rfl d1) ?_
  refine FL.pur rfl rfl (p_len rfl Try.underlying23) ?_
  refine FL.pur rfl rfl (p_eql rfl rfl (decide_eq_true rfl)) ?_
  refine FL.pur rfl rfl (p_pick_t rfl rfl) ?_
  refine mv_ rfl rfl rfl ?_
  refine mv_ rfl rfl rfl ?_
  refine FL.pur rfl rfl (p_eql rfl rfl (decide_eq_true rfl)) ?_
  refine FL.pur rfl rfl (p_pick_t rfl rfl) ?_
  refine mv_ rfl rfl rfl ?_
  refine FL.pur rfl rfl (fld36_0 rfl) ?_
  refine FL.val _ _ rfl rfl (p_load rfl Try.underlying5 rfl d2) ?_
  refine FL.pur rfl rfl (p_eql rfl rfl (decide_eq_true rfl)) ?_
  refine FL.pur rfl rfl (p_pick_t rfl rfl) ?_
  refine mv_ rfl rfl rfl ?_
  refine FL.pur rfl rfl (fld36_2 rfl) ?_
  refine FL.val _ _ rfl rfl (p_load rfl Try.underlying22 rfl d3) ?_
  refine FL.pur rfl rfl (p_len rfl Try.underlying22) ?_
  refine FL.pur rfl rfl (p_gtr rfl rfl (decide_eq_true (by omega))) ?_
  refine FL.pur rfl rfl (p_pick_t rfl rfl) ?_
  refine mv_ rfl rfl rfl ?_
  refine mv_ rfl rfl rfl ?_
  refine FL.pur rfl rfl (p_eql rfl rfl (decide_eq_true rfl)) ?_
  refine FL.pur rfl rfl (p_pick_t rfl rfl) ?_
  refine mv_ rfl rfl rfl ?_
  refine FL.pur rfl rfl (fld36_0 rfl) ?_
  refine FL.val _ _ rfl rfl (p_load rfl Try.underlying5 rfl d4) ?_
  refine FL.pur rfl rfl (p_eql rfl rfl (decide_eq_true rfl)) ?_
  refine FL.pur rfl rfl (p_pick_t rfl rfl) ?_
  refine mv_ rfl rfl rfl ?_
  refine mv_ rfl rfl rfl ?_
  refine FL.pur rfl rfl (p_eql rfl rfl (decide_eq_true rfl)) ?_
  refine FL.pur rfl rfl (p_pick_t rfl rfl) ?_
  refine mv_ rfl rfl rfl ?_
  refine FL.pur rfl rfl (fld36_0 rfl) ?_
  refine FL.val _ _ rfl rfl (p_load rfl Try.underlying5 rfl d5) ?_
  refine FL.pur rfl rfl (p_eql rfl rfl (decide_eq_true rfl)) ?_
  refine FL.pur rfl rfl (p_pick_t rfl rfl) ?_
  refine mv_ rfl rfl rfl ?_
  refine FL.pur rfl rfl (fld36_1 rfl) ?_
  refine FL.val _ _ rfl rfl (p_load rfl Try.underlying23 rfl d6) ?_
  refine FL.pur rfl rfl (p_len rfl Try.underlying23) ?_
  refine FL.pur rfl rfl (p_eql rfl rfl (decide_eq_true rfl)) ?_
  refine FL.pur rfl rfl (p_pick_t rfl rfl) ?_
  refine mv_ rfl rfl rfl ?_
  refine FL.pur rfl rfl (fld36_1 rfl) ?_
  refine FL.val _ _ rfl rfl (p_load rfl Try.underlying23 rfl d6) ?_
  refine FL.pur rfl rfl (p_indexA rfl rfl Try.underlying23 inf4_eq inf4_size (by decide) (by decide)) ?_
  refine FL.val _ _ rfl rfl (p_load rfl Try.underlying4 rfl x21) ?_
  refine FL.pur rfl rfl (p_not rfl) ?_
  refine FL.pur rfl rfl (p_pick_t rfl rfl) ?_
  refine sg_ rfl rfl rfl ?_
  refine FL.nilK ?_
  refine FC.sub [(25, .bool true), (26, .bool true)] ⟨rfl, rfl, trivial⟩ ?_
  refine FC.seq (FC.region ?_)
  refine FL.call rfl rfl (p_call Try.func23 rfl rfl rfl) (three_calls wp) ?_
  rintro e_ w_ ⟨v3, rfl, h3, f3⟩
  refine ⟨_, rfl, ?_⟩
  refine FL.val _ _ rfl rfl (bld41 rfl rfl) ?_
  refine FL.val _ _ rfl rfl bld41_0 ?_
  refine FL.val _ _ rfl rfl (p_build2 rfl rfl Try.underlying22 inf41_eq inf41_size inf41_zero rfl rfl rfl) ?_
  obtain ⟨w8, hw8, l1, l2⟩ := lit2 w_ [2] [] (cells := #[.int .i64 2]) (cells' := #[]) rfl rfl (n := 1) (m := 0) rfl rfl
  rw [← hw8]
  have f1 := (f1.go f3).go l2
  have h3 := (h3.rws.rws.go l2).p.rws
  clear hw8 l2 f3
  refine FL.call rfl rfl (p_call Try.func16 rfl rfl rfl) (refutes_calls 2 h3 l1 (Nat.le_refl _) (by decide) (by decide) (by decide) (by decide)) ?_
  rintro e_ w_ ⟨⟨x6, rfl, y6⟩, f6⟩
  refine ⟨_, rfl, ?_⟩
  obtain rfl : x6 = false := no_ref three_sat rfl y6
  have f1 := f1.go f6
  clear l1 h3 f6 y6
  refine FL.pur rfl rfl (p_not rfl) ?_
  refine mv_ rfl rfl rfl ?_
  refine FL.call rfl rfl (p_call Try.func23 rfl rfl rfl) (three_calls _) ?_
  rintro e_ w_ ⟨v3, rfl, h3, f3⟩
  refine ⟨_, rfl, ?_⟩
  refine FL.call rfl rfl (p_call Try.func16 rfl rfl rfl) (refutes_calls 2 h3.rws.rws (nil_rws _) (Nat.le_refl _) (by decide) (by decide) (by decide) (by decide)) ?_
  rintro e_ w_ ⟨⟨x6, rfl, y6⟩, f6⟩
  refine ⟨_, rfl, ?_⟩
  obtain rfl : x6 = false := no_ref three_sat rfl y6
  have f1 := (f1.go f3).go f6
  clear h3 f3 f6 y6
  refine FL.pur rfl rfl (p_not rfl) ?_
  refine FL.pur rfl rfl (p_pick_t rfl rfl) ?_
  refine mv_ rfl rfl rfl ?_
  refine FL.call rfl rfl (p_call Try.func23 rfl rfl rfl) (three_calls _) ?_
  rintro e_ w_ ⟨v3, rfl, h3, f3⟩
  refine ⟨_, rfl, ?_⟩
  refine FL.val _ _ rfl rfl (bld41 rfl rfl) ?_
  refine FL.val _ _ rfl rfl (bld41 rfl rfl) ?_
  refine FL.val _ _ rfl rfl (p_build2 rfl rfl Try.underlying22 inf41_eq inf41_size inf41_zero rfl rfl rfl) ?_
  obtain ⟨w8, hw8, l1, l2⟩ := lit2 w_ [1] [2] (cells := #[.int .i64 1]) (cells' := #[.int .i64 2]) rfl rfl (n := 1) (m := 1) rfl rfl
  rw [← hw8]
  have f1 := (f1.go f3).go l2
  have h3 := (h3.rws.rws.go l2).p.rws
  clear hw8 l2 f3
  refine FL.call rfl rfl (p_call Try.func16 rfl rfl rfl) (refutes_calls 2 h3 l1 (Nat.le_refl _) (by decide) (by decide) (by decide) (by decide)) ?_
  rintro e_ w_ ⟨⟨x6, rfl, y6⟩, f6⟩
  refine ⟨_, rfl, ?_⟩
  obtain rfl : x6 = false := no_ref three_sat rfl y6
  have f1 := f1.go f6
  clear l1 h3 f6 y6
  refine FL.pur rfl rfl (p_not rfl) ?_
  refine FL.pur rfl rfl (p_pick_t rfl rfl) ?_
  refine mv_ rfl rfl rfl ?_
  refine FL.call rfl rfl (p_call Try.func23 rfl rfl rfl) (three_calls _) ?_
  rintro e_ w_ ⟨v3, rfl, h3, f3⟩
  refine ⟨_, rfl, ?_⟩
  refine FL.val _ _ rfl rfl bld41_0 ?_
  refine FL.val _ _ rfl rfl (bld22 rfl rfl) ?_
  obtain ⟨w8, hw8, l1, l2⟩ := lit1 w_ [] (cells := #[]) rfl (n := 0) rfl
  rw [← hw8]
  have f1 := (f1.go f3).go l2
  have h3 := (h3.rws.rws.go l2).p.rws
  clear hw8 l2 f3
  refine FL.call rfl rfl (p_call Try.func16 rfl rfl rfl) (refutes_calls 1 h3 l1 (Nat.le_refl _) (by decide) (by decide) (by decide) (by decide)) ?_
  rintro e_ w_ ⟨⟨x6, rfl, y6⟩, f6⟩
  refine ⟨_, rfl, ?_⟩
  obtain rfl : x6 = false := Bool.eq_false_iff.2 fun e => absurd (y6.1 e).1 (by decide)
  have f1 := f1.go f6
  clear l1 h3 f6 y6
  refine FL.pur rfl rfl (p_not rfl) ?_
  refine FL.pur rfl rfl (p_pick_t rfl rfl) ?_
  refine mv_ rfl rfl rfl ?_
  obtain ⟨wq, hwq⟩ : ∃ wq, wq = w_ := ⟨_, rfl⟩
  rw [← hwq] at f1
  rw [← hwq]
  clear hwq
  refine FL.val _ _ rfl rfl (bld41 rfl rfl) ?_
  refine FL.val _ _ rfl rfl (bld41 rfl rfl) ?_
  refine FL.val _ _ rfl rfl (p_build2 rfl rfl Try.underlying22 inf41_eq inf41_size inf41_zero rfl rfl rfl) ?_
  obtain ⟨w8, hw8, l1, l2⟩ := lit2 wq [1] [-1] (cells := #[.int .i64 1]) (cells' := #[.int .i64 (-1)]) rfl rfl (n := 1) (m := 1) rfl rfl
  rw [← hw8]
  have f1 := f1.go l2
  clear hw8 l2
  refine FL.val _ _ rfl rfl (p_build2 rfl rfl Try.underlying41 inf3_eq inf3_size inf3_zero rfl rfl rfl) ?_
  refine FL.val _ _ rfl rfl bld41_0 ?_
  refine FL.val _ _ rfl rfl (p_build2 rfl rfl Try.underlying22 inf41_eq inf41_size inf41_zero rfl rfl rfl) ?_
  obtain ⟨w9, hw9, k1, k2⟩ := lit2 w8 [1, -1] [] (cells := #[.int .i64 1, .int .i64 (-1)]) (cells' := #[]) rfl rfl (n := 2) (m := 0) rfl rfl
  rw [← hw9]
  have f1 := f1.go k2
  have l1 := (l1.go k2).p.rws
  clear hw9 k2
  refine FL.call rfl rfl (p_call Try.func16 rfl rfl rfl) (refutes_calls 1 l1 k1 (Nat.le_refl _) (by decide) (by decide) (by decide) (by decide)) ?_
  rintro e_ w_ ⟨⟨x6, rfl, y6⟩, f6⟩
  refine ⟨_, rfl, ?_⟩
  obtain rfl : x6 = true := y6.2 both_ref
  have f1 := f1.go f6
  clear l1 k1 f6 y6
  refine FL.pur rfl rfl (p_pick_t rfl rfl) ?_
  refine mv_ rfl rfl rfl ?_
  obtain ⟨wr, hwr⟩ : ∃ wr, wr = w_ := ⟨_, rfl⟩
  rw [← hwr] at f1
  rw [← hwr]
  clear hwr
  refine FL.val _ _ rfl rfl (bld41 rfl rfl) ?_
  refine FL.val _ _ rfl rfl (bld41 rfl rfl) ?_
  refine FL.val _ _ rfl rfl (p_build2 rfl rfl Try.underlying22 inf41_eq inf41_size inf41_zero rfl rfl rfl) ?_
  obtain ⟨w8, hw8, l1, l2⟩ := lit2 wr [1] [-1] (cells := #[.int .i64 1]) (cells' := #[.int .i64 (-1)]) rfl rfl (n := 1) (m := 1) rfl rfl
  rw [← hw8]
  have f1 := f1.go l2
  clear hw8 l2
  refine FL.val _ _ rfl rfl (bld41 rfl rfl) ?_
  refine FL.val _ _ rfl rfl bld41_0 ?_
  refine FL.val _ _ rfl rfl (p_build2 rfl rfl Try.underlying22 inf41_eq inf41_size inf41_zero rfl rfl rfl) ?_
  obtain ⟨w9, hw9, k1, k2⟩ := lit2 w8 [2] [] (cells := #[.int .i64 2]) (cells' := #[]) rfl rfl (n := 1) (m := 0) rfl rfl
  rw [← hw9]
  have f1 := f1.go k2
  have l1 := (l1.go k2).p.rws
  clear hw9 k2
  refine FL.call rfl rfl (p_call Try.func16 rfl rfl rfl) (refutes_calls 1 l1 k1 (Nat.le_refl _) (by decide) (by decide) (by decide) (by decide)) ?_
  rintro e_ w_ ⟨⟨x6, rfl, y6⟩, f6⟩
  refine ⟨_, rfl, ?_⟩
  obtain rfl : x6 = false := Bool.eq_false_iff.2 fun e => absurd (y6.1 e).2.2.1 (by decide)
  have f1 := f1.go f6
  clear l1 k1 f6 y6
  refine FL.pur rfl rfl (p_not rfl) ?_
  refine FL.pur rfl rfl (p_pick_t rfl rfl) ?_
  refine sg_ rfl rfl rfl ?_
  refine FL.nilK ?_
  refine FC.sub [(25, .bool true), (26, .bool true), (27, .bool true)] ⟨rfl, rfl, rfl, trivial⟩ ?_
  obtain ⟨wp, hwp⟩ : ∃ wp, wp = w_ := ⟨_, rfl⟩
  rw [← hwp] at f1 ⊢
  clear hwp
  have hsm : ∀ c ∈ ([[1, -1]] : List (List Int)), c.length < 4611686018427387904 ∧ Small64 c := fun c hc => by
    rw [List.mem_singleton.1 hc]
    exact ⟨by decide, fun l hl => by
      simp at hl
      rcases hl with rfl | rfl <;> omega⟩
  refine FC.seq (FC.region ?_)
  refine mv_ rfl rfl rfl ?_
  refine FL.call rfl rfl (p_call Try.func19 rfl rfl rfl) (alive_calls wp) ?_
  rintro e_ w_ ⟨rfl, f3⟩
  refine ⟨_, rfl, ?_⟩
  refine FL.pur rfl rfl (p_pick_t rfl rfl) ?_
  refine mv_ rfl rfl rfl ?_
  refine mv_ rfl rfl rfl ?_
  refine FL.pur rfl rfl (p_pick_t rfl rfl) ?_
  refine mv_ rfl rfl rfl ?_
  refine mv_ rfl rfl rfl ?_
  refine FL.pur rfl rfl (p_pick_t rfl rfl) ?_
  refine mv_ rfl rfl rfl ?_
  refine mv_ rfl rfl rfl ?_
  refine FL.pur rfl rfl (p_pick_t rfl rfl) ?_
  refine mv_ rfl rfl rfl ?_
  refine FL.call rfl rfl (p_call Try.func14 rfl rfl rfl) (holds_calls (bs := []) (nil_rws _) ⟨none, 0, rfl, fun i hi => absurd hi (Nat.not_lt_zero _)⟩ (by decide) (fun c hc => by cases hc) (by decide)) ?_
  rintro e_ w_ ⟨rfl, f4⟩
  refine ⟨_, rfl, ?_⟩
  refine FL.pur rfl rfl (p_pick_t rfl rfl) ?_
  refine mv_ rfl rfl rfl ?_
  obtain ⟨wq, hwq⟩ : ∃ wq, wq = w_ := ⟨_, rfl⟩
  have f1 := (f1.go f3).go f4
  clear f3 f4
  rw [← hwq] at f1
  rw [← hwq]
  clear hwq
  refine FL.val _ _ rfl rfl bld41_0 ?_
  refine FL.val _ _ rfl rfl (bld22 rfl rfl) ?_
  obtain ⟨w8, hw8, l1, l2⟩ := lit1 wq [] (cells := #[]) rfl (n := 0) rfl
  rw [← hw8]
  have f1 := f1.go l2
  clear hw8 l2
  refine FL.call rfl rfl (p_call Try.func14 rfl rfl rfl) (holds_calls (bs := []) l1 ⟨none, 0, rfl, fun i hi => absurd hi (Nat.not_lt_zero _)⟩ (by decide) (by intro c hc; rw [List.mem_singleton.1 hc]; exact ⟨by decide, fun l hl => by cases hl⟩) (by decide)) ?_
  rintro e_ w_ ⟨rfl, f4⟩
  refine ⟨_, rfl, ?_⟩
  refine FL.pur rfl rfl (p_not rfl) ?_
  refine FL.pur rfl rfl (p_pick_t rfl rfl) ?_
  refine mv_ rfl rfl rfl ?_
  obtain ⟨wr, hwr⟩ : ∃ wr, wr = w_ := ⟨_, rfl⟩
  have f1 := f1.go f4
  clear l1 f4
  rw [← hwr] at f1
  rw [← hwr]
  clear hwr
  refine FL.val _ _ rfl rfl (p_build2 rfl rfl Try.underlying41 inf3_eq inf3_size inf3_zero rfl rfl rfl) ?_
  refine FL.val _ _ rfl rfl (bld22 rfl rfl) ?_
  obtain ⟨w8, hw8, l1, l2⟩ := lit1 wr [1, -1] (cells := #[.int .i64 1, .int .i64 (-1)]) rfl (n := 2) rfl
  rw [← hw8]
  have f1 := f1.go l2
  clear hw8 l2
  refine FL.call rfl rfl (p_call Try.func14 rfl rfl rfl) (holds_calls (bs := []) l1 ⟨none, 0, rfl, fun i hi => absurd hi (Nat.not_lt_zero _)⟩ (by decide) hsm (by decide)) ?_
  rintro e_ w_ ⟨rfl, f4⟩
  refine ⟨_, rfl, ?_⟩
  refine FL.pur rfl rfl (p_not rfl) ?_
  refine FL.pur rfl rfl (p_pick_t rfl rfl) ?_
  refine mv_ rfl rfl rfl ?_
  obtain ⟨ws, hws⟩ : ∃ ws, ws = w_ := ⟨_, rfl⟩
  have f1 := f1.go f4
  clear l1 f4
  rw [← hws] at f1
  rw [← hws]
  clear hws
  refine FL.val _ _ rfl rfl (p_build2 rfl rfl Try.underlying41 inf3_eq inf3_size inf3_zero rfl rfl rfl) ?_
  refine FL.val _ _ rfl rfl (bld22 rfl rfl) ?_
  obtain ⟨w8, hw8, l1, l2⟩ := lit1 ws [1, -1] (cells := #[.int .i64 1, .int .i64 (-1)]) rfl (n := 2) rfl
  rw [← hw8]
  have f1 := f1.go l2
  clear hw8 l2
  refine FL.val _ _ rfl rfl (bld23 rfl rfl) ?_
  have f9 : Fr (fun _ => False) w8 (w8.alloc (.cells #[.bool false] 4)) := (Fr.refl _ _).alloc _
  have hb9 : BRow (w8.alloc (.cells #[.bool false] 4)) (w8.alloc (.cells #[.bool false] 4)).heap.size (.slice (some ⟨w8.heap.size, 0, none⟩) 1 1) [false] := brow_lit w8 false
  refine FL.call rfl rfl (p_call Try.func14 rfl rfl rfl) (holds_calls (l1.go f9).p.rws hb9 (by decide) hsm (by decide)) ?_
  rintro e_ w_ ⟨rfl, f4⟩
  refine ⟨_, rfl, ?_⟩
  refine FL.pur rfl rfl (p_pick_t rfl rfl) ?_
  refine sg_ rfl rfl rfl ?_
  refine FL.nilK ?_
  refine FC.ret ?_
  repeat with_reducible first | refine thn_ret ?_ | refine blk_ret ?_ | refine nog_ret ?_
  exact ret1 Try.results8 rfl ⟨rfl, (f1.go f9).go f4⟩
theorem names_row (W : World) : Calls Try.prog 8 #[] W fun e w' => e = .returned (.bool true) ∧ Below W.heap.size W w' := (names_law W).mono fun _ _ ⟨h1, h2⟩ => ⟨h1, h2.below' fun _ h => h.elim⟩
end
end Go.Proofs.Ytcahhbcehnbdkaa.Sv

/- Arguments of a row, opened: rows of rows of numbers, rows of truth values. -/
namespace Go.Proofs.Ytcahhbcehnbdkaa.Sv
open Go.RowKit Go.ChangeShapes Go.WideShapes Go.ChangeAt Go.Deep Go.Proofs.YtcahhbcehnbdkaaW.PrintWords
section
variable {H : Type} {enc : TypeId × Value → H} {W : World} {d : DataW H} {ps : List MemPlace} {ts : List TypeId} {ds : List (DataW H)} {j : Nat} {a : Option Addr} {len cap : Nat}
theorem weights_all {P : Program} {e : TypeId} : ∀ {l : List (DataW H)} {x : DataW H}, x ∈ l → ∀ n ∈ x.weights P e, n ∈ DataW.weightsAll P e l
  | y :: l, x, hx, n, hn => by
    rw [DataW.weightsAll]
    rcases List.mem_cons.1 hx with rfl | hx
    · exact List.mem_append.2 (.inl hn)
    · exact List.mem_append.2 (.inr (weights_all hx n hn))
theorem wf64 {n : Int} (h : (Lit.int .i64 n).wf = true) : -9223372036854775808 ≤ n ∧ n < 9223372036854775808 := by
  simp [Lit.wf, IntKind.min, IntKind.max, IntKind.signed, IntKind.bits] at h
  omega
theorem open_in (hsz : (DataW.weightsEach Try.prog ts ds).all (· ≤ reachBytes) = true) (ht : ts[j]? = some 22) (hd : ds[j]? = some d) (h : DataW.Trod enc Try.prog W 0 (fun _ => true) true 22 (.slice a len cap) d ps) :
    ∃ cs, Rws W W.heap.size (.slice a len cap) cs ∧ Sized cs ∧ ∀ c ∈ cs, Small64 c := by
  obtain ⟨fuel, hf⟩ := h
  rcases open_int_rows Try.underlying22 Try.underlying41 Try.underlying3 (by kernel_rfl) (by kernel_rfl) hf with ⟨hcs, _⟩ | ⟨x, l, c, A, L, C, Z, hcs, _, hl, hm, hx, hr⟩
  · simp [Value.cells] at hcs
    obtain ⟨rfl, rfl, rfl⟩ := hcs
    exact ⟨[], ⟨none, 0, rfl, fun i hi => absurd hi (Nat.not_lt_zero _)⟩, ⟨by simp, by simp⟩, by simp⟩
  · simp [Value.cells] at hcs
    obtain ⟨rfl, rfl, rfl⟩ := hcs
    obtain ⟨hx, _⟩ := Prod.mk.inj hx
    subst hx
    have hlen : ((List.range len).map fun r => (Z r).take (L r)).length = len := by simp
    have hwt := DataW.weights_mem_each (P := Try.prog) ht hd
    have hall := List.all_eq_true.1 hsz
    have hn : len * 24 ≤ 140737488351232 := by
      have z := sized_slice hsz ht hd Try.underlying22
      rw [show Try.prog.bytesOf 41 = 24 by kernel_rfl] at z
      have : reachBytes = 140737488351232 := rfl
      simp only [List.length_map, List.length_range] at z
      omega
    have hrow : ∀ r, r < len → L r * 8 ≤ 140737488351232 := fun r hrl => by
      obtain ⟨_, h1, _, h3, _, h5, _⟩ := hr r (by omega)
      cases hA : A r with
      | none => have := h5 hA; omega
      | some ad =>
        have hmem : ((Z r).take (L r)).length + ((Z r).drop (L r)).length = (Z r).length := by rw [← List.length_append, List.take_append_drop]
        have e : ((Z r).take (L r)).length * 8 + ((Z r).drop (L r)).length * 8 ≤ reachBytes := by
          have hin : intRow (H := H) .i64 (A r) (L r) (Z r) ∈ (List.range len).map fun r => intRow .i64 (A r) (L r) (Z r) := List.mem_map.2 ⟨r, List.mem_range.2 hrl, rfl⟩
          have h0 : (((Z r).take (L r)).length + ((Z r).drop (L r)).length) * 8 ∈ (intRow (H := H) .i64 (A r) (L r) (Z r)).weights Try.prog 41 := by
            rw [hA]
            simp only [intRow, DataW.weights, Try.underlying41, lits, List.length_map]
            rw [show Try.prog.bytesOf 3 = 8 by kernel_rfl]
            exact List.mem_cons_self
          have h1 := weights_all hin _ h0
          have h2 := hall _ (hwt _ (by
            simp only [DataW.weights, Try.underlying22]
            exact List.mem_cons_of_mem _ (List.mem_append.2 (.inl h1))))
          have h2 := of_decide_eq_true h2
          omega
        have : reachBytes = 140737488351232 := rfl
        omega
    refine ⟨(List.range len).map fun r => (Z r).take (L r), ⟨some x, cap, by rw [hlen], fun r hrl => ?_⟩, ⟨by rw [hlen]; omega, fun q hq => ?_⟩, fun q hq => ?_⟩
    · rw [hlen] at hrl
      obtain ⟨h0, h1, h2, h3, h4, h5, h6⟩ := hr r (by omega)
      have hlr : ((Z r).take (L r)).length = L r := by rw [List.length_take]; omega
      have eq : ((List.range len).map fun r => (Z r).take (L r)).getD r [] = (Z r).take (L r) := by
        rw [List.getD_eq_getElem?_getD, List.getElem?_map, List.getElem?_range hrl]; rfl
      have hb := World.block_lt_of_cell? W _ h0
      rw [add_block] at hb
      refine ⟨x, _, rfl, hb, h0, ?_⟩
      rw [eq]
      refine ⟨A r, C r, by rw [hlr], fun k hk => ?_⟩
      rw [hlr] at hk
      cases hA : A r with
      | none => have := h5 hA; omega
      | some ad =>
        have hc := (h6 ad hA).2 k (by omega)
        have hb2 := World.block_lt_of_cell? W _ hc
        rw [add_block] at hb2
        refine ⟨ad, rfl, hb2, ?_⟩
        rw [hc, g, List.getD_eq_getElem?_getD, List.getD_eq_getElem?_getD, List.getElem?_take, if_pos hk]
    · obtain ⟨r, hr1, rfl⟩ := List.mem_map.1 hq
      have hrl := List.mem_range.1 hr1
      have := hrow r hrl
      rw [List.length_take]
      omega
    · obtain ⟨r, hr1, rfl⟩ := List.mem_map.1 hq
      have hrl := List.mem_range.1 hr1
      obtain ⟨_, _, _, _, h4, _⟩ := hr r (by omega)
      exact fun n hn => wf64 (h4 n (List.mem_of_mem_take hn))
theorem open_bin (hsz : (DataW.weightsEach Try.prog ts ds).all (· ≤ reachBytes) = true) (ht : ts[j]? = some 23) (hd : ds[j]? = some d) (h : DataW.Trod enc Try.prog W 0 (fun _ => true) true 23 (.slice a len cap) d ps) :
    ∃ bs, len = bs.length ∧ BRow W W.heap.size (.slice a len cap) bs ∧ bs.length ≤ 140737488351232 := by
  obtain ⟨fuel, hf⟩ := h
  rcases open_bools Try.underlying23 Try.underlying4 (by kernel_rfl) hf with ⟨hcs, _⟩ | ⟨x, l, c, B, hcs, _, hl, hm, hx, hr⟩
  · simp [Value.cells] at hcs
    obtain ⟨rfl, rfl, rfl⟩ := hcs
    exact ⟨[], rfl, ⟨none, 0, rfl, fun i hi => absurd hi (Nat.not_lt_zero _)⟩, by simp⟩
  · simp [Value.cells] at hcs
    obtain ⟨rfl, rfl, rfl⟩ := hcs
    obtain ⟨hx, _⟩ := Prod.mk.inj hx
    have hlen : ((List.range len).map B).length = len := by simp
    refine ⟨(List.range len).map B, hlen.symm, ⟨some x, cap, by rw [hlen], fun r hrl => ?_⟩, ?_⟩
    · rw [hlen] at hrl
      have h0 := hr r (by omega)
      have hb := World.block_lt_of_cell? W _ h0
      rw [add_block] at hb
      refine ⟨x, rfl, hb, ?_⟩
      rw [h0, List.getD_eq_getElem?_getD, List.getElem?_map, List.getElem?_range hrl]
      rfl
    · rw [hlen]
      subst hx
      have z := sized_slice hsz ht hd Try.underlying23
      rw [show Try.prog.bytesOf 4 = 1 by kernel_rfl] at z
      have : reachBytes = 140737488351232 := rfl
      simp only [List.length_map, List.length_range] at z
      omega
theorem checks_row (W : World) (a0 : Int) (w0 : -9223372036854775808 ≤ a0 ∧ a0 < 9223372036854775808) {v1 v2 : Value} {l1 l2 : List (List Int)} {a : Option Addr} {c : Nat} {l3 : List Bool} (k1 : Rws W W.heap.size v1 l1) (z1 : Sized l1) (b1 : ∀ c ∈ l1, Small64 c) (k2 : Rws W W.heap.size v2 l2) (z2 : Sized l2) (_ : ∀ c ∈ l2, Small64 c) (k3 : BRow W W.heap.size (.slice a l3.length c) l3) (b3 : l3.length ≤ 140737488351232) :
    Calls Try.prog 3 #[.int .i64 a0, v1, v2, .slice a l3.length c] W fun e w' => e = .returned (.bool true) ∧ Below W.heap.size W w' := (checks_law a0 w0 (Nat.le_refl _) k1 k2 k3 z1 z2 b1 b3).mono fun _ _ ⟨h1, h2⟩ => ⟨h1, h2.below' fun _ h => h.elim⟩
end
end Go.Proofs.Ytcahhbcehnbdkaa.Sv

/- SolveNames holds: for every input the law returns true, and each argument reads behind the call as it read before. No condition. -/
namespace Go.Proofs.Ytcahhbcehnbdkaa.solveNames
open Go.ChangeShapes Go.WideShapes Go.ChangeAt Go.RowKit Go.Proofs.Ytcahhbcehnbdkaa.Sv
set_option linter.unusedVariables false
theorem own : ownKnob Try.prog.godebug = none := by kernel_rfl
theorem laidOut : laidOutB Try.prog = true := by kernel_rfl
set_option maxRecDepth 100000 in
theorem lifted (os : Os) (started : os.Started) (H : Type) (enc : TypeId × Value → H) :
    ReturnsInHanded {} Try.checked os 8 .any (Rows.solveNamesSpec.pre6 enc Try.prog Try.f8 Rows.solveNamesRow.domain false) (Rows.solveNamesSpec.post enc Try.prog Try.f8 false true false false) := by
  refine returnsInHanded_of_change_sized (C := Try.checked) own started (by kernel_rfl) Try.func8
    (ChangeSpec.witness6 (enc := enc) (C := Try.checked) false ⟨#[], #[], []⟩ 8 (by kernel_rfl) (by kernel_rfl) (by kernel_rfl) (by kernel_rfl)) ?_
  intro W base args ds gs before hval0 hW hcnd hsz0 _
  have hsz : (DataW.weightsEach Try.prog (Try.f8.params.toList ++ Rows.solveNamesSpec.plain.varTypes Try.prog) (ds ++ gs)).all (· ≤ reachBytes) = true := hsz0
  have hval : ∀ (j : Nat) t v, Try.f8.params[j]? = some t → args[j]? = some v → Value.okWide Try.prog W .any base t v := hval0
  have hW' := hW
  obtain ⟨p, q, hA0, hV, rfl, hfz, hnd⟩ := hW
  have hA : DataW.TrodAll enc Try.prog W 0 (fun _ => true) true Try.f8.params.toList args.toList ds p := hA0
  rw [Try.params8] at hA hval hsz
  obtain ⟨rfl, rfl, rfl⟩ := trodAll_none hA
  obtain ⟨rfl, rfl⟩ := trodVars_none hV
  clear hA0 hval0 hsz0 hsz
  refine (names_row W ).mono fun e W' ⟨he, bel⟩ => ?_
  subst he
  exact ⟨_, rfl, _, _, _, [], _, [], hW', trodAll_mk1 (shut_bool Try.underlying4 _), trodAll_mk0, rfl, bel.frame _, fun h => by cases h⟩
theorem over : Rows.solveNamesRow.holds Try.pinned (OpenSpec.ofChange Rows.solveNamesSpec) :=
  OpenClaim.holds_of_wide 8 Try.f8 rfl rfl rfl rfl rfl rfl rfl ⟨rfl, rfl, rfl, rfl, rfl⟩ rfl rfl rfl rfl rfl (by kernel_rfl) Try.func8 (by kernel_rfl)
    (of_decide_eq_true (by kernel_rfl)) (by unfold Func.isWrapper; first | (rw [if_pos (by decide +kernel)]; kernel_rfl) | (rw [if_neg (by decide +kernel)]; exact ⟨rfl, rfl⟩))
    (fun os started H enc _ => lifted os started H enc)
theorem proved : Rows.SolveNamesSaid := over
end Go.Proofs.Ytcahhbcehnbdkaa.solveNames
namespace Go.Proofs.Ytcahhbcehnbdkaa
/-- The row, under a short name, for the claim. -/
theorem solveNames_holds : Rows.SolveNamesSaid := solveNames.proved
#print axioms solveNames_holds
end Go.Proofs.Ytcahhbcehnbdkaa
