/- SolveChecks holds: for every input the law returns true, and each argument reads behind the call as it read before. No condition. -/
import Derived.Test.YtcahhbcehnbdkaaZ13
import Derived.Test.YtcahhbcehnbdkaaRows
import Derived.Deep.Matrix
import Derived.Deep.Grids
import Derived.SizedLaws
import Derived.WalkKit
import Derived.ProofKit
import Derived.OpenShut
import Derived.ChangeOld
import Derived.Below
set_option linter.unusedVariables false
set_option linter.unusedSimpArgs false
/- Arguments of a row, opened: rows of rows of numbers, rows of truth values. -/
namespace Go.Proofs.Ytcahhbcehnbdkaa.Sv
open Go.RowKit Go.ChangeShapes Go.WideShapes Go.ChangeAt Go.Deep Go.Proofs.YtcahhbcehnbdkaaW.PrintWords
section
variable {H : Type} {enc : TypeId × Value → H} {W : World} {d : DataW H} {ps : List MemPlace} {ts : List TypeId} {ds : List (DataW H)} {j : Nat} {a : Option Addr} {len cap : Nat}
theorem weights_all {P : Program} {e : TypeId} : ∀ {l : List (DataW H)} {x : DataW H}, x ∈ l → ∀ n ∈ x.weights P e, n ∈ DataW.weightsAll P e l
  | y :: l, x, hx, n, hn => by
    rw [DataW.weightsAll]
    rcases List.mem_cons.1 hx with rfl | hx
    · exact List.mem_append.2 (.inl hn)
    · exact List.mem_append.2 (.inr (weights_all hx n hn))
theorem wf64 {n : Int} (h : (Lit.int .i64 n).wf = true) : -9223372036854775808 ≤ n ∧ n < 9223372036854775808 := by
  simp [Lit.wf, IntKind.min, IntKind.max, IntKind.signed, IntKind.bits] at h
  omega
theorem open_in (hsz : (DataW.weightsEach Try.prog ts ds).all (· ≤ reachBytes) = true) (ht : ts[j]? = some 22) (hd : ds[j]? = some d) (h : DataW.Trod enc Try.prog W 0 (fun _ => true) true 22 (.slice a len cap) d ps) :
    ∃ cs, Rws W W.heap.size (.slice a len cap) cs ∧ Sized cs ∧ ∀ c ∈ cs, Small64 c := by
  obtain ⟨fuel, hf⟩ := h
  rcases open_int_rows Try.underlying22 Try.underlying41 Try.underlying3 (by kernel_rfl) (by kernel_rfl) hf with ⟨hcs, _⟩ | ⟨x, l, c, A, L, C, Z, hcs, _, hl, hm, hx, hr⟩
  · simp [Value.cells] at hcs
    obtain ⟨rfl, rfl, rfl⟩ := hcs
    exact ⟨[], ⟨none, 0, rfl, fun i hi => absurd hi (Nat.not_lt_zero _)⟩, ⟨by simp, by simp⟩, by simp⟩
  · simp [Value.cells] at hcs
    obtain ⟨rfl, rfl, rfl⟩ := hcs
    obtain ⟨hx, _⟩ := Prod.mk.inj hx
    subst hx
    have hlen : ((List.range len).map fun r => (Z r).take (L r)).length = len := by simp
    have hwt := DataW.weights_mem_each (P := Try.prog) ht hd
    have hall := List.all_eq_true.1 hsz
    have hn : len * 24 ≤ 140737488351232 := by
      have z := sized_slice hsz ht hd Try.underlying22
      rw [show Try.prog.bytesOf 41 = 24 by kernel_rfl] at z
      have : reachBytes = 140737488351232 := rfl
      simp only [List.length_map, List.length_range] at z
      omega
    have hrow : ∀ r, r < len → L r * 8 ≤ 140737488351232 := fun r hrl => by
      obtain ⟨_, h1, _, h3, _, h5, _⟩ := hr r (by omega)
      cases hA : A r with
      | none => have := h5 hA; omega
      | some ad =>
        have hmem : ((Z r).take (L r)).length + ((Z r).drop (L r)).length = (Z r).length := by rw [← List.length_append, List.take_append_drop]
        have e : ((Z r).take (L r)).length * 8 + ((Z r).drop (L r)).length * 8 ≤ reachBytes := by
          have hin : intRow (H := H) .i64 (A r) (L r) (Z r) ∈ (List.range len).map fun r => intRow .i64 (A r) (L r) (Z r) := List.mem_map.2 ⟨r, List.mem_range.2 hrl, rfl⟩
          have h0 : (((Z r).take (L r)).length + ((Z r).drop (L r)).length) * 8 ∈ (intRow (H := H) .i64 (A r) (L r) (Z r)).weights Try.prog 41 := by
            rw [hA]
            simp only [intRow, DataW.weights, Try.underlying41, lits, List.length_map]
            rw [show Try.prog.bytesOf 3 = 8 by kernel_rfl]
            exact List.mem_cons_self
          have h1 := weights_all hin _ h0
          have h2 := hall _ (hwt _ (by
            simp only [DataW.weights, Try.underlying22]
            exact List.mem_cons_of_mem _ (List.mem_append.2 (.inl h1))))
          have h2 := of_decide_eq_true h2
          omega
        have : reachBytes = 140737488351232 := rfl
        omega
    refine ⟨(List.range len).map fun r => (Z r).take (L r), ⟨some x, cap, by rw [hlen], fun r hrl => ?_⟩, ⟨by rw [hlen]; omega, fun q hq => ?_⟩, fun q hq => ?_⟩
    · rw [hlen] at hrl
      obtain ⟨h0, h1, h2, h3, h4, h5, h6⟩ := hr r (by omega)
      have hlr : ((Z r).take (L r)).length = L r := by rw [List.length_take]; omega
      have eq : ((List.range len).map fun r => (Z r).take (L r)).getD r [] = (Z r).take (L r) := by
        rw [List.getD_eq_getElem?_getD, List.getElem?_map, List.getElem?_range hrl]; rfl
      have hb := World.block_lt_of_cell? W _ h0
      rw [add_block] at hb
      refine ⟨x, _, rfl, hb, h0, ?_⟩
      rw [eq]
      refine ⟨A r, C r, by rw [hlr], fun k hk => ?_⟩
      rw [hlr] at hk
      cases hA : A r with
      | none => have := h5 hA; omega
      | some ad =>
        have hc := (h6 ad hA).2 k (by omega)
        have hb2 := World.block_lt_of_cell? W _ hc
        rw [add_block] at hb2
        refine ⟨ad, rfl, hb2, ?_⟩
        rw [hc, g, List.getD_eq_getElem?_getD, List.getD_eq_getElem?_getD, List.getElem?_take, if_pos hk]
    · obtain ⟨r, hr1, rfl⟩ := List.mem_map.1 hq
      have hrl := List.mem_range.1 hr1
      have := hrow r hrl
      rw [List.length_take]
      omega
    · obtain ⟨r, hr1, rfl⟩ := List.mem_map.1 hq
      have hrl := List.mem_range.1 hr1
      obtain ⟨_, _, _, _, h4, _⟩ := hr r (by omega)
      exact fun n hn => wf64 (h4 n (List.mem_of_mem_take hn))
theorem open_bin (hsz : (DataW.weightsEach Try.prog ts ds).all (· ≤ reachBytes) = true) (ht : ts[j]? = some 23) (hd : ds[j]? = some d) (h : DataW.Trod enc Try.prog W 0 (fun _ => true) true 23 (.slice a len cap) d ps) :
    ∃ bs, len = bs.length ∧ BRow W W.heap.size (.slice a len cap) bs ∧ bs.length ≤ 140737488351232 := by
  obtain ⟨fuel, hf⟩ := h
  rcases open_bools Try.underlying23 Try.underlying4 (by kernel_rfl) hf with ⟨hcs, _⟩ | ⟨x, l, c, B, hcs, _, hl, hm, hx, hr⟩
  · simp [Value.cells] at hcs
    obtain ⟨rfl, rfl, rfl⟩ := hcs
    exact ⟨[], rfl, ⟨none, 0, rfl, fun i hi => absurd hi (Nat.not_lt_zero _)⟩, by simp⟩
  · simp [Value.cells] at hcs
    obtain ⟨rfl, rfl, rfl⟩ := hcs
    obtain ⟨hx, _⟩ := Prod.mk.inj hx
    have hlen : ((List.range len).map B).length = len := by simp
    refine ⟨(List.range len).map B, hlen.symm, ⟨some x, cap, by rw [hlen], fun r hrl => ?_⟩, ?_⟩
    · rw [hlen] at hrl
      have h0 := hr r (by omega)
      have hb := World.block_lt_of_cell? W _ h0
      rw [add_block] at hb
      refine ⟨x, rfl, hb, ?_⟩
      rw [h0, List.getD_eq_getElem?_getD, List.getElem?_map, List.getElem?_range hrl]
      rfl
    · rw [hlen]
      subst hx
      have z := sized_slice hsz ht hd Try.underlying23
      rw [show Try.prog.bytesOf 4 = 1 by kernel_rfl] at z
      have : reachBytes = 140737488351232 := rfl
      simp only [List.length_map, List.length_range] at z
      omega
theorem checks_row (W : World) (a0 : Int) (w0 : -9223372036854775808 ≤ a0 ∧ a0 < 9223372036854775808) {v1 v2 : Value} {l1 l2 : List (List Int)} {a : Option Addr} {c : Nat} {l3 : List Bool} (k1 : Rws W W.heap.size v1 l1) (z1 : Sized l1) (b1 : ∀ c ∈ l1, Small64 c) (k2 : Rws W W.heap.size v2 l2) (z2 : Sized l2) (_ : ∀ c ∈ l2, Small64 c) (k3 : BRow W W.heap.size (.slice a l3.length c) l3) (b3 : l3.length ≤ 140737488351232) :
    Calls Try.prog 3 #[.int .i64 a0, v1, v2, .slice a l3.length c] W fun e w' => e = .returned (.bool true) ∧ Below W.heap.size W w' := (checks_law a0 w0 (Nat.le_refl _) k1 k2 k3 z1 z2 b1 b3).mono fun _ _ ⟨h1, h2⟩ => ⟨h1, h2.below' fun _ h => h.elim⟩
end
end Go.Proofs.Ytcahhbcehnbdkaa.Sv

/- SolveChecks holds: for every input the law returns true, and each argument reads behind the call as it read before. No condition. -/
namespace Go.Proofs.Ytcahhbcehnbdkaa.solveChecks
open Go.ChangeShapes Go.WideShapes Go.ChangeAt Go.RowKit Go.Proofs.Ytcahhbcehnbdkaa.Sv
set_option linter.unusedVariables false
theorem own : ownKnob Try.prog.godebug = none := by kernel_rfl
theorem laidOut : laidOutB Try.prog = true := by kernel_rfl
set_option maxRecDepth 100000 in
theorem lifted (os : Os) (started : os.Started) (H : Type) (enc : TypeId × Value → H) :
    ReturnsInHanded {} Try.checked os 3 .any (Rows.solveChecksSpec.pre6 enc Try.prog Try.f3 Rows.solveChecksRow.domain false) (Rows.solveChecksSpec.post enc Try.prog Try.f3 false true false false) := by
  refine returnsInHanded_of_change_sized (C := Try.checked) own started (by kernel_rfl) Try.func3
    (ChangeSpec.witness6 (enc := enc) (C := Try.checked) false ⟨#[], #[.int .i64 0, .slice none 0 0, .slice none 0 0, .slice none 0 0], []⟩ 8 (by kernel_rfl) (by kernel_rfl) (by kernel_rfl) (by kernel_rfl)) ?_
  intro W base args ds gs before hval0 hW hcnd hsz0 _
  have hsz : (DataW.weightsEach Try.prog (Try.f3.params.toList ++ Rows.solveChecksSpec.plain.varTypes Try.prog) (ds ++ gs)).all (· ≤ reachBytes) = true := hsz0
  have hval : ∀ (j : Nat) t v, Try.f3.params[j]? = some t → args[j]? = some v → Value.okWide Try.prog W .any base t v := hval0
  have hW' := hW
  obtain ⟨p, q, hA0, hV, rfl, hfz, hnd⟩ := hW
  have hA : DataW.TrodAll enc Try.prog W 0 (fun _ => true) true Try.f3.params.toList args.toList ds p := hA0
  rw [Try.params3] at hA hval hsz
  obtain ⟨v0, vs0, d0, ds0, p0, q0, hargs, rfl, rfl, h0, r0⟩ := trodAll_cons hA
  obtain ⟨v1, vs1, d1, ds1, p1, q1, rfl, rfl, rfl, h1, r1⟩ := trodAll_cons r0
  obtain ⟨v2, vs2, d2, ds2, p2, q2, rfl, rfl, rfl, h2, r2⟩ := trodAll_cons r1
  obtain ⟨v3, vs3, d3, ds3, p3, q3, rfl, rfl, rfl, h3, r3⟩ := trodAll_cons r2
  obtain ⟨rfl, rfl, rfl⟩ := trodAll_nil r3
  obtain rfl : args = #[v0, v1, v2, v3] := by cases args; simp_all
  obtain ⟨rfl, rfl⟩ := trodVars_none hV
  obtain ⟨a0, rfl, rfl, rfl, w0⟩ := open_int Try.underlying3 (hval 0 3 v0 rfl rfl) h0
  obtain ⟨a1, len1, cap1, rfl⟩ := okWide_slice Try.underlying22 (hval 1 22 v1 rfl rfl)
  have lt1 : ∀ x ∈ p1, x.block < W.heap.size := by obtain ⟨m, hm⟩ := h1; exact DataW.trod_lt m _ _ _ hm
  obtain ⟨l1, k1, z1, b1⟩ := open_in (j := 1) hsz rfl rfl h1
  obtain ⟨a2, len2, cap2, rfl⟩ := okWide_slice Try.underlying22 (hval 2 22 v2 rfl rfl)
  have lt2 : ∀ x ∈ p2, x.block < W.heap.size := by obtain ⟨m, hm⟩ := h2; exact DataW.trod_lt m _ _ _ hm
  obtain ⟨l2, k2, z2, b2⟩ := open_in (j := 2) hsz rfl rfl h2
  obtain ⟨a3, len3, cap3, rfl⟩ := okWide_slice Try.underlying23 (hval 3 23 v3 rfl rfl)
  have lt3 : ∀ x ∈ p3, x.block < W.heap.size := by obtain ⟨m, hm⟩ := h3; exact DataW.trod_lt m _ _ _ hm
  obtain ⟨l3, rfl, k3, b3⟩ := open_bin (j := 3) hsz rfl rfl h3
  clear hA0 hval0 hsz0 hsz
  refine (checks_row W a0 (wf64 w0) k1 z1 b1 k2 z2 b2 k3 b3).mono fun e W' ⟨he, bel⟩ => ?_
  subst he
  exact ⟨_, rfl, _, _, _, [], _, [], hW', trodAll_mk1 (shut_bool Try.underlying4 _), (trodAll_cons_mk (shut_int Try.underlying3 w0) (trodAll_cons_mk (Below.trod laidOut (by kernel_rfl) (of_decide_eq_true (by kernel_rfl)) h1 bel lt1) (trodAll_cons_mk (Below.trod laidOut (by kernel_rfl) (of_decide_eq_true (by kernel_rfl)) h2 bel lt2) (trodAll_cons_mk (Below.trod laidOut (by kernel_rfl) (of_decide_eq_true (by kernel_rfl)) h3 bel lt3) trodAll_mk0)))), rfl, bel.frame _, fun h => by cases h⟩
theorem over : Rows.solveChecksRow.holds Try.pinned (OpenSpec.ofChange Rows.solveChecksSpec) :=
  OpenClaim.holds_of_wide 3 Try.f3 rfl rfl rfl rfl rfl rfl rfl ⟨rfl, rfl, rfl, rfl, rfl⟩ rfl rfl rfl rfl rfl (by kernel_rfl) Try.func3 (by kernel_rfl)
    (of_decide_eq_true (by kernel_rfl)) (by unfold Func.isWrapper; first | (rw [if_pos (by decide +kernel)]; kernel_rfl) | (rw [if_neg (by decide +kernel)]; exact ⟨rfl, rfl⟩))
    (fun os started H enc _ => lifted os started H enc)
theorem proved : Rows.SolveChecksSaid := over
end Go.Proofs.Ytcahhbcehnbdkaa.solveChecks
namespace Go.Proofs.Ytcahhbcehnbdkaa
/-- The row, under a short name, for the claim. -/
theorem solveChecks_holds : Rows.SolveChecksSaid := solveChecks.proved
#print axioms solveChecks_holds
end Go.Proofs.Ytcahhbcehnbdkaa
