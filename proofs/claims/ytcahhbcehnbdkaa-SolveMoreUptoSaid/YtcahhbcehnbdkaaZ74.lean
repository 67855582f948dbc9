/- Lemmas for: SolveMoreUpto holds: for every input the law returns true, and each argument reads behind the call as it read before. No condition. -/
import Derived.Test.YtcahhbcehnbdkaaZ73
import Derived.Laws.Rows
import Derived.Laws.ResultCell
import Derived.Laws.Cover3
import Derived.Test.YtcahhbcehnbdkaaZ71
import Derived.Test.YtcahhbcehnbdkaaZ72
set_option linter.unusedVariables false
set_option linter.unusedSimpArgs false
/- Walk of (*search).learn. -/
namespace Go.Proofs.Ytcahhbcehnbdkaa.Sv
open Go.RowKit Go.Proofs.YtcahhbcehnbdkaaW.PrintWords Go.Proofs.YtcahhbcehnbdkaaW.PrintLast Go.Proofs.Ytcahhbcehnbdkaa.Eng

structure LS where
  j : Int
  seen : List Bool
  act : List Int
  ls : List Int
  op : Int
  bk : Int
  b : Nat
  v : Value
section
variable {w w1 : World} {B g0 n T : Nat} {s : S} {V : Lay} {ks : List Nat} {Φ : List (List Int)} {A : Int → Prop}
theorem LW.start (h : Srch w B g0 s V) (hact : s.active.length = n) (w1 w2 : World) (e1 : w1 = w.alloc (.cells (madeCells #[.bool false] n) 4)) (e2 : w2 = w1.alloc (.cells #[.int .i64 0] 3)) : LW w B g0 n V s w.heap.size w2 (List.replicate n false) s.active (.slice (some ⟨w1.heap.size, 0, none⟩) 1 1) [0] := by
  have f : Fr (fun _ => False) w w2 := by rw [e2, e1]; exact ((Fr.refl _ w).alloc _).alloc _
  have hb : BVec w2 w.heap.size (List.replicate n false) := by
    have h1 : BVec w1 w.heap.size (List.replicate n false) := by rw [e1]; exact bvec_made w n
    rw [e2]
    exact h1.fr ((Fr.refl (fun _ => False) w1).alloc _) fun h => h
  refine ⟨h.fr f fun _ h => h.elim, (Goes.refl g0 V w).step f fun _ h => h.elim, hb, ?_, Nat.le_refl _, hact⟩
  have hs : w1.heap.size = w.heap.size + 1 := by rw [e1]; simp
  have hh : w2.heap[w1.heap.size]? = some (.cells #[.int .i64 0] 3) := by rw [e2]; exact heap_alloc_new w1 _
  refine ⟨by simp [nums], .inr ⟨w1.heap.size, 1, _, rfl, by omega, hh, by simp, by simp [maxLen], by simp, by simp [nums]⟩⟩
theorem av_nn (l : Int) : 0 ≤ av l := by unfold av; omega
theorem av_ltI {n : Nat} {l : Int} (h : Lit n l) : av l < n := by obtain ⟨h1, h2⟩ := h; unfold av; omega
theorem av_max (l : Int) : max l (-l) = av l := rfl
set_option maxHeartbeats 8000000 in
theorem learn_calls (h : Srch w B g0 s V) (ho : Ok Φ A s n T ks) (hh : Hist s n ks) (hsrc : Src Φ s) (h0 : 0 < ks.length) {i0 : Int} (hi0 : 0 ≤ i0) (hc : Clash s i0) (hat : s.atoms = (n : Int) - 1) (hact : s.active.length = n) (hn30 : n < 1073741824) :
    Calls Try.prog 52 #[.pointer (some ⟨g0, 0, none⟩), .int .i64 i0] w fun e w' => ∃ v bk tp ls act, e = .returned (.tuple #[v, .int .i64 bk]) ∧ Lrn s n ks Φ tp ls bk ∧ Srch w' B g0 { s with active := act } V ∧ act.length = n ∧ Goes g0 V w V w' ∧ Own w' B g0 V v (-(g s.trail tp) :: ls) ∧ (∀ k, v.ownBlock = some k → w.heap.size ≤ k) := by
  have hnm := ho.good.nmax
  have htr := ho.good.tr
  have hcls := ho.good.cls
  have hlitc : ∀ j : Int, 0 ≤ j → j.toNat < s.clauses.length → ∀ l ∈ cl s j, Lit n l ∧ l ≠ 0 := fun j _ hj l hl => ⟨ho.good.cl _ (mem_getD hj) l hl, ho.good.nzc _ (mem_getD hj) l hl⟩
  have hmkl : s.marks.length = ks.length := by rw [hh.mks, List.length_map]
  refine calls_of_FC (N := 164) (vs := [.pointer (some ⟨g0, 0, none⟩), .int .i64 i0]) Try.func52 rfl Try.ntmps52 (Nat.le_of_ble_eq_true rfl) ?_
  refine FC.seq (FC.region ?_)
  refine sg_ rfl rfl rfl ?_
  refine sg_ rfl rfl rfl ?_
  refine FL.nilK ?_
  refine FC.seq (FC.region ?_)
  refine mv_ rfl rfl rfl ?_
  refine FL.pur rfl rfl (p_nilCheck rfl) ?_
  refine FL.pur rfl rfl (fld67_0 rfl) ?_
  refine FL.val _ _ rfl rfl (p_load rfl Try.underlying3 rfl h.f_atoms) ?_
  refine FL.pur rfl rfl (p_add rfl rfl ((wr (by omega) (by omega)).trans (show s.atoms + 1 = ((n : Nat) : Int) by omega))) ?_
  refine FL.val _ _ rfl rfl (p_make rfl Try.underlying23 i23 rfl (by omega) (by omega)) ?_
  refine sg_ rfl rfl rfl ?_
  refine FL.nilK ?_
  refine FC.seq (FC.region ?_)
  refine FL.val _ _ rfl rfl (bld41 rfl rfl) ?_
  refine sg_ rfl rfl rfl ?_
  refine FL.nilK ?_
  obtain ⟨w1, hw1⟩ : ∃ w1, w1 = w.alloc (.cells (madeCells #[.bool false] n) 4) := ⟨_, rfl⟩
  rw [← hw1]
  obtain ⟨w2, hw2⟩ : ∃ w2, w2 = w1.alloc (.cells #[.int .i64 0] 3) := ⟨_, rfl⟩
  rw [← hw2]
  have hL0 := (LW.start h hact w1 w2 hw1 hw2).drew
  obtain ⟨bs, hbs⟩ : ∃ bs, bs = w.heap.size := ⟨_, rfl⟩
  rw [← hbs] at hL0 ⊢
  obtain ⟨v0, hv0⟩ : ∃ v0, v0 = Value.slice (some ⟨w1.heap.size, 0, none⟩) 1 1 := ⟨_, rfl⟩
  rw [← hv0] at hL0 ⊢
  clear hw1 hw2 hv0
  obtain ⟨At, ct, hvt, _, _⟩ := hL0.sr.lenOf .trail s.trail.length (by simp [C, nums])
  have hS0 := cellEq hL0.sr.f_trail hvt
  refine FC.seq (FC.draw (fun w => w.cell? ⟨g0, 7, none⟩ = some (.slice At s.trail.length ct)) [] (bA 9 0) (by kernel_rfl) rfl rfl hS0 ?_)
  refine FA.pur (i := 0) (bA 9 1) rfl (by kernel_rfl) rfl rfl (p_move rfl) ?_
  refine FA.pur (i := 1) (bA 9 3) rfl (by kernel_rfl) rfl rfl (p_nilCheck rfl) ?_
  refine FA.pur (i := 2) (bA 9 7) rfl (by kernel_rfl) rfl rfl (fld67_7 rfl) ?_
  refine FA.pur (i := 6) (bA 9 71) rfl (by kernel_rfl) rfl rfl (p_assign rfl) ?_
  refine FA.lod (i := 3) (bA 9 79) rfl (by kernel_rfl) rfl rfl hS0 (fun _ hs => p_load rfl Try.underlying41 rfl hs) ?_
  refine FA.pur (i := 4) (bA 9 95) rfl (by kernel_rfl) rfl rfl (p_len rfl Try.underlying41) ?_
  refine FA.pur (i := 5) (bA 9 127) rfl (by kernel_rfl) rfl rfl (p_sub rfl rfl (wr (by omega) (by omega))) ?_
  refine FA.pur (i := 7) (bA 9 255) rfl (by kernel_rfl) rfl rfl (p_assign rfl) ?_
  refine FA.pur (i := 8) (bA 9 511) rfl (by kernel_rfl) rfl rfl (p_assign rfl) ?_
  refine FA.doneK (by kernel_rfl) ?_
  obtain ⟨⟨hc1, hc2⟩, hc3⟩ := hc
  obtain ⟨bc, cc, hvc, _, _⟩ := hL0.sr.formOf .clauses s.clauses.length (by simp [C, rowsOf_length]) (by omega)
  have hcl0 := hL0.sr.cell .clauses hvc i0.toNat (v := V (.clause i0.toNat)) (rowsOf_get (fun i => V (.clause i)) s.clauses.length i0.toNat hc1)
  refine FC.seq (FC.region ?_)
  refine mv_ rfl rfl rfl ?_
  refine FL.pur rfl rfl (p_nilCheck rfl) ?_
  refine FL.pur rfl rfl (fld67_1 rfl) ?_
  refine FL.val _ _ rfl rfl (p_load rfl Try.underlying22 rfl (cellEq hL0.sr.f_clauses hvc)) ?_
  refine mv_ rfl rfl rfl ?_
  refine FL.pur rfl rfl (idx22 rfl rfl (by omega) (by omega)) ?_
  refine FL.val _ _ rfl rfl (p_load rfl Try.underlying41 rfl hcl0) ?_
  refine sg_ rfl rfl rfl ?_
  refine FL.nilK ?_
  have hc : Clash s i0 := ⟨⟨hc1, hc2⟩, hc3⟩
  refine FC.block ?_
  refine FC.loop (σ := LS) (fun x => [(0, .pointer (some ⟨g0, 0, none⟩)), (6, .slice (some ⟨bs, 0, none⟩) n n), (7, x.v), (8, .int .i64 x.op), (9, .int .i64 ((x.b : Int) - 1)), (10, .int .i64 x.bk), (11, V (.clause x.j.toNat))])
    (fun x w2 => LW w B g0 n V s bs w2 x.seen x.act x.v (0 :: x.ls) ∧ J s n ks i0 x.b (cl s x.j) x.seen x.ls x.op x.bk ∧ (0 ≤ x.j ∧ x.j.toNat < s.clauses.length) ∧ (1 ≤ x.op ∨ ∃ y ∈ cl s x.j, levA s y = ks.length ∧ -y ∈ s.trail.take x.b)) (fun x => x.b)
    ⟨i0, List.replicate n false, s.active, [], 0, 0, s.trail.length, v0⟩ ⟨hL0, J.start hc, ⟨hi0, hc1⟩, .inr (by
      obtain ⟨y, y1, y2, _, _, y3⟩ := clash_last ho hh h0 hc
      exact ⟨y, y1, y2, by rw [List.take_length]; exact y3⟩)⟩ ⟨rfl, rfl, rfl, rfl, rfl, rfl, rfl, trivial⟩ ?_
  clear hL0 hS0 hcl0 hvc hvt
  rintro ⟨j, seen0, act0, ls0, op0, bk0, b, v0⟩ w2 ⟨hL, hJ, ⟨hj0, hj1⟩, hop⟩
  simp only at hL hJ hj0 hj1 hop ⊢
  have hb := hJ.hi
  have hlit := hlitc j hj0 hj1
  have hrow0 := hL.sr.rowOf (.clause j.toNat) (cl s j) (by simp only [C]; rfl)
  obtain ⟨Ac, capc, hvj, _⟩ := hrow0
  rw [hvj]
  obtain ⟨c, hcj⟩ : ∃ c, c = cl s j := ⟨_, rfl⟩
  rw [← hcj] at hJ hlit hvj hop ⊢
  have hclen : c.length ≤ 9223372036854775807 := by
    obtain ⟨A', c', e, h1, h2⟩ := hL.sr.slice (.clause j.toNat)
    have : (C { s with active := act0 } V (.clause j.toNat)).length = c.length := by rw [hcj]; simp [C, nums, cl]
    rw [this] at e h1
    have hx := hL.sr.own (.clause j.toNat)
    rcases hx.2 with ⟨_, h0⟩ | ⟨q, cap, cur, e2, _, hhp, hcc, hm, _, _⟩
    · rw [this] at h0; omega
    · rw [this] at hcc
      simp only [maxLen] at hm
      omega
  refine FC.block ?_
  refine FC.cut (σ := LS) (fun x => [(0, .pointer (some ⟨g0, 0, none⟩)), (6, .slice (some ⟨bs, 0, none⟩) n n), (7, x.v), (8, .int .i64 x.op), (9, .int .i64 ((b : Int) - 1)), (10, .int .i64 x.bk)])
    (fun x w2 => LW w B g0 n V s bs w2 x.seen x.act x.v (0 :: x.ls) ∧ J s n ks i0 b [] x.seen x.ls x.op x.bk ∧ 1 ≤ x.op) ?_ ?_
  · refine FC.seq (FC.region ?_)
    refine mv_ rfl rfl rfl ?_
    refine FL.pur rfl rfl (p_len rfl Try.underlying41) ?_
    refine mv_ rfl rfl rfl ?_
    refine FL.nilK ?_
    refine FC.block ?_
    refine FC.loop (σ := LS × Nat) (fun x => [(0, .pointer (some ⟨g0, 0, none⟩)), (6, .slice (some ⟨bs, 0, none⟩) n n), (7, x.1.v), (8, .int .i64 x.1.op), (9, .int .i64 ((b : Int) - 1)), (10, .int .i64 x.1.bk), (36, .slice Ac c.length capc), (37, .int .i64 c.length), (38, .int .i64 x.2)])
      (fun x w2 => LW w B g0 n V s bs w2 x.1.seen x.1.act x.1.v (0 :: x.1.ls) ∧ J s n ks i0 b c x.1.seen x.1.ls x.1.op x.1.bk ∧ x.2 ≤ c.length ∧ (∀ q, q < x.2 → Done s x.1.seen (g c q)) ∧ (1 ≤ op0 → 1 ≤ x.1.op)) (fun x => c.length - x.2)
      (⟨j, seen0, act0, ls0, op0, bk0, b, v0⟩, 0) ⟨hL, hJ, Nat.zero_le _, fun q hq => absurd hq (Nat.not_lt_zero _), id⟩ ⟨rfl, rfl, rfl, rfl, rfl, rfl, rfl, rfl, rfl, trivial⟩ ?_
    clear hL hJ
    rintro ⟨⟨j', seen, act, ls, op, bk, b', v⟩, i⟩ w3 ⟨hL, hJ, hi, hdn, hopm⟩
    simp only at hL hJ hi hdn hopm ⊢
    refine FC.seq (FC.region ?_)
    refine FL.pur rfl rfl (p_lss rfl rfl rfl) ?_
    refine FL.nilK ?_
    refine FC.seq ?_
    refine FC.cond (decide ((i : Int) < (c.length : Int))) rfl (fun hcc => FC.skip (thn_normal ?_)) (fun hcc => FC.exit ?_)
    rotate_left
    · have hge : ¬ (i : Int) < (c.length : Int) := of_decide_eq_false hcc
      have hall : ∀ m ∈ c, Done s seen m := fun m hm => by
        obtain ⟨q, q1, q2⟩ := mem_iff_g.1 hm
        rw [← q2]
        exact hdn q (by omega)
      have hJf := hJ.fin hall
      exact thn_exit (thn_exit (blk_exit ⟨⟨j, seen, act, ls, op, bk, b, v⟩, ⟨rfl, rfl, rfl, rfl, rfl, rfl, trivial⟩, hL, hJf, hJf.some_ hh h0 (hop.imp hopm fun ⟨y, y1, y2, y3⟩ => ⟨y, y2, y3, hall y y1⟩)⟩))
    have hlt : i < c.length := by have := of_decide_eq_true hcc; omega
    have hrow := hL.sr.rowOf (.clause j.toNat) c (by rw [hcj]; rfl)
    obtain ⟨Ac', capc', hvj', hcell⟩ := hrow
    rw [hvj] at hvj'
    injection hvj' with q1 q2 q3
    subst q1 q3
    obtain ⟨ad, rfl, _, hce⟩ := hcell i hlt
    have hce : w3.cell? (ad.add (i : Int).toNat) = some (.int .i64 (g c i)) := hce
    have hlc : g c i ∈ c := g_mem hlt
    obtain ⟨hLl, hz⟩ := hlit _ hlc
    have hav0 := av_nn (g c i)
    have hav1 := av_ltI hLl
    have hLl' := hLl
    obtain ⟨hL1, hL2⟩ := hLl'
    have hsl := hJ.len
    have hsee := hL.bv.at (av (g c i)).toNat (by omega)
    have hseq : seen.getD (av (g c i)).toNat false = sb seen (g c i) := rfl
    rw [hseq] at hsee
    refine FC.seq ?_
    refine FC.block ?_
    refine FC.seq (FC.region ?_)
    refine FL.pur rfl rfl (p_indexA rfl rfl Try.underlying41 inf3_eq inf3_size (by omega) (by omega)) ?_
    refine FL.val _ _ rfl rfl (p_load rfl Try.underlying3 rfl hce) ?_
    refine sg_ rfl rfl rfl ?_
    refine FL.nilK ?_
    refine FC.seq (FC.region ?_)
    refine mv_ rfl rfl rfl ?_
    refine mv_ rfl rfl rfl ?_
    refine FL.pur rfl rfl (p_neg rfl (wr (by omega) (by omega))) ?_
    refine FL.pur rfl rfl (p_max rfl rfl (av_max (g c i))) ?_
    refine sg_ rfl rfl rfl ?_
    refine FL.nilK ?_
    refine FC.seq ?_
    have next : ∀ q, (∀ q', q' < i → Done s seen (g c q')) → Done s seen (g c i) → q < i + 1 → Done s seen (g c q) := fun q hq hd hlt' => by
      by_cases e : q = i
      · rw [e]; exact hd
      · exact hq q (by omega)
    have skipped : Done s seen (g c i) → ∀ q, q < i + 1 → Done s seen (g c q) := fun hd q hq => next q hdn hd hq
    cases hsn : sb seen (g c i) with
    | true =>
      rw [hsn] at hsee
      refine FC.seq (FC.region ?_)
      refine mv_ rfl rfl rfl ?_
      refine mv_ rfl rfl rfl ?_
      refine FL.pur rfl rfl (idx23 rfl rfl (by omega) (by omega)) ?_
      refine FL.val _ _ rfl rfl (p_load rfl Try.underlying4 rfl hsee) ?_
      refine mv_ rfl rfl rfl ?_
      refine FL.off rfl rfl ?_
      refine FL.off rfl rfl ?_
      refine FL.off rfl rfl ?_
      refine FL.off rfl rfl ?_
      refine FL.pur rfl rfl (p_pick_t rfl rfl) ?_
      refine mv_ rfl rfl rfl ?_
      refine FL.off rfl rfl ?_
      refine FL.off rfl rfl ?_
      refine FL.off rfl rfl ?_
      refine FL.off rfl rfl ?_
      refine FL.off rfl rfl ?_
      refine FL.off rfl rfl ?_
      refine FL.off rfl rfl ?_
      refine FL.off rfl rfl ?_
      refine FL.pur rfl rfl (p_pick_t rfl rfl) ?_
      refine FL.nilK ?_
      refine FC.cond_t rfl ?_
      refine FC.exit ?_
      repeat (first | with_reducible refine thn_exit ?_ | with_reducible refine nog_exit ?_ | with_reducible refine blk_pass (by decide) ?_)
      with_reducible refine blk_exit ?_
      try with_reducible refine thn_normal ?_
      refine FC.region ?_
      refine FL.pur rfl rfl (p_add rfl rfl ((wr (by omega) (by omega)).trans (show (i : Int) + 1 = ((i + 1 : Nat) : Int) by omega))) ?_
      refine mv_ rfl rfl rfl ?_
      refine FL.nil ?_
      exact ⟨(⟨j, seen, act, ls, op, bk, b, v⟩, i + 1), ⟨rfl, rfl, rfl, rfl, rfl, rfl, rfl, rfl, rfl, trivial⟩, ⟨hL, hJ, hlt, skipped (.inr hsn), hopm⟩, by show c.length - (i + 1) < c.length - i; omega⟩
    | false =>
    rw [hsn] at hsee
    have kof := of_calls hL.sr (g c i) (by show -(s.value.length : Int) < _; rw [ho.good.value]; exact hL1) (by show _ < (s.value.length : Int); rw [ho.good.value]; exact hL2) ho.good.small
    have hofe : ofv { s with active := act } (g c i) = ofv s (g c i) := rfl
    rw [hofe] at kof
    by_cases hof : ofv s (g c i) = -1
    rotate_left
    · have hd : Done s seen (g c i) := by
        rcases hJ.hc _ hlc with hd | hd
        · exact hd
        · have := hh.tt _ (List.mem_of_mem_take hd)
          rw [ofv_neg hz] at this
          omega
      refine FC.seq (FC.region ?_)
      refine mv_ rfl rfl rfl ?_
      refine mv_ rfl rfl rfl ?_
      refine FL.pur rfl rfl (idx23 rfl rfl (by omega) (by omega)) ?_
      refine FL.val _ _ rfl rfl (p_load rfl Try.underlying4 rfl hsee) ?_
      refine mv_ rfl rfl rfl ?_
      refine mv_ rfl rfl rfl ?_
      refine mv_ rfl rfl rfl ?_
      refine FL.call rfl rfl (p_call Try.func33 rfl rfl rfl) (kof) ?_
      rintro e_ w_ ⟨rfl, rfl⟩
      refine ⟨_, rfl, ?_⟩
      refine FL.pur rfl rfl (p_neq rfl rfl (show _ = !true by simp [hof])) ?_
      refine FL.pur rfl rfl (p_pick_f rfl rfl) ?_
      refine mv_ rfl rfl rfl ?_
      refine FL.off rfl rfl ?_
      refine FL.off rfl rfl ?_
      refine FL.off rfl rfl ?_
      refine FL.off rfl rfl ?_
      refine FL.off rfl rfl ?_
      refine FL.off rfl rfl ?_
      refine FL.off rfl rfl ?_
      refine FL.off rfl rfl ?_
      refine FL.pur rfl rfl (p_pick_t rfl rfl) ?_
      refine FL.nilK ?_
      refine FC.cond_t rfl ?_
      refine FC.exit ?_
      repeat (first | with_reducible refine thn_exit ?_ | with_reducible refine nog_exit ?_ | with_reducible refine blk_pass (by decide) ?_)
      with_reducible refine blk_exit ?_
      try with_reducible refine thn_normal ?_
      refine FC.region ?_
      refine FL.pur rfl rfl (p_add rfl rfl ((wr (by omega) (by omega)).trans (show (i : Int) + 1 = ((i + 1 : Nat) : Int) by omega))) ?_
      refine mv_ rfl rfl rfl ?_
      refine FL.nil ?_
      exact ⟨(⟨j, seen, act, ls, op, bk, b, v⟩, i + 1), ⟨rfl, rfl, rfl, rfl, rfl, rfl, rfl, rfl, rfl, trivial⟩, ⟨hL, hJ, hlt, skipped hd, hopm⟩, by show c.length - (i + 1) < c.length - i; omega⟩
    obtain ⟨bl, cpl, hvl, _, _⟩ := hL.sr.formOf .level n (by simp [C, nums, hh.llen]) (by omega)
    have hlc2 := hL.sr.cell .level hvl (av (g c i)).toNat (v := .int .i64 (levA s (g c i))) (nums_at .i64 s.level (av (g c i)) hav0 (by rw [hh.llen]; exact hav1))
    by_cases hlv : levA s (g c i) = 0
    · refine FC.seq (FC.region ?_)
      refine mv_ rfl rfl rfl ?_
      refine mv_ rfl rfl rfl ?_
      refine FL.pur rfl rfl (idx23 rfl rfl (by omega) (by omega)) ?_
      refine FL.val _ _ rfl rfl (p_load rfl Try.underlying4 rfl hsee) ?_
      refine mv_ rfl rfl rfl ?_
      refine mv_ rfl rfl rfl ?_
      refine mv_ rfl rfl rfl ?_
      refine FL.call rfl rfl (p_call Try.func33 rfl rfl rfl) (kof) ?_
      rintro e_ w_ ⟨rfl, rfl⟩
      refine ⟨_, rfl, ?_⟩
      refine FL.pur rfl rfl (p_neq rfl rfl (show _ = !false by simp [hof])) ?_
      refine FL.pur rfl rfl (p_pick_f rfl rfl) ?_
      refine mv_ rfl rfl rfl ?_
      refine mv_ rfl rfl rfl ?_
      refine FL.pur rfl rfl (p_nilCheck rfl) ?_
      refine FL.pur rfl rfl (fld67_4 rfl) ?_
      refine FL.val _ _ rfl rfl (p_load rfl Try.underlying41 rfl (cellEq hL.sr.f_level hvl)) ?_
      refine mv_ rfl rfl rfl ?_
      refine FL.pur rfl rfl (idx41 rfl rfl (by omega) (by omega)) ?_
      refine FL.val _ _ rfl rfl (p_load rfl Try.underlying3 rfl hlc2) ?_
      refine FL.pur rfl rfl (p_eql rfl rfl (decide_eq_true hlv)) ?_
      refine FL.pur rfl rfl (p_pick_f rfl rfl) ?_
      refine FL.nilK ?_
      refine FC.cond_t rfl ?_
      refine FC.exit ?_
      repeat (first | with_reducible refine thn_exit ?_ | with_reducible refine nog_exit ?_ | with_reducible refine blk_pass (by decide) ?_)
      with_reducible refine blk_exit ?_
      try with_reducible refine thn_normal ?_
      refine FC.region ?_
      refine FL.pur rfl rfl (p_add rfl rfl ((wr (by omega) (by omega)).trans (show (i : Int) + 1 = ((i + 1 : Nat) : Int) by omega))) ?_
      refine mv_ rfl rfl rfl ?_
      refine FL.nil ?_
      exact ⟨(⟨j, seen, act, ls, op, bk, b, v⟩, i + 1), ⟨rfl, rfl, rfl, rfl, rfl, rfl, rfl, rfl, rfl, trivial⟩, ⟨hL, hJ, hlt, skipped (.inl hlv), hopm⟩, by show c.length - (i + 1) < c.length - i; omega⟩
    refine FC.seq (FC.region ?_)
    refine mv_ rfl rfl rfl ?_
    refine mv_ rfl rfl rfl ?_
    refine FL.pur rfl rfl (idx23 rfl rfl (by omega) (by omega)) ?_
    refine FL.val _ _ rfl rfl (p_load rfl Try.underlying4 rfl hsee) ?_
    refine mv_ rfl rfl rfl ?_
    refine mv_ rfl rfl rfl ?_
    refine mv_ rfl rfl rfl ?_
    refine FL.call rfl rfl (p_call Try.func33 rfl rfl rfl) (kof) ?_
    rintro e_ w_ ⟨rfl, rfl⟩
    refine ⟨_, rfl, ?_⟩
    refine FL.pur rfl rfl (p_neq rfl rfl (show _ = !false by simp [hof])) ?_
    refine FL.pur rfl rfl (p_pick_f rfl rfl) ?_
    refine mv_ rfl rfl rfl ?_
    refine mv_ rfl rfl rfl ?_
    refine FL.pur rfl rfl (p_nilCheck rfl) ?_
    refine FL.pur rfl rfl (fld67_4 rfl) ?_
    refine FL.val _ _ rfl rfl (p_load rfl Try.underlying41 rfl (cellEq hL.sr.f_level hvl)) ?_
    refine mv_ rfl rfl rfl ?_
    refine FL.pur rfl rfl (idx41 rfl rfl (by omega) (by omega)) ?_
    refine FL.val _ _ rfl rfl (p_load rfl Try.underlying3 rfl hlc2) ?_
    refine FL.pur rfl rfl (p_eql rfl rfl (decide_eq_false hlv)) ?_
    refine FL.pur rfl rfl (p_pick_f rfl rfl) ?_
    refine FL.nilK ?_
    refine FC.cond_f rfl (FC.skip (thn_normal ?_))
    obtain ⟨hJ1, hJ2, _⟩ := hJ.take hh ho.tnd h0 hlc hsn hlv hLl hz
    have hopn := hJ.op
    have hcn := cnt_le (fun t => decide (kLast ks ≤ t) && sb seen (g s.trail t)) b
    have hdn2 : ∀ q, q < i + 1 → Done s (seen.set (av (g c i)).toNat true) (g c q) := fun q hq => by
      have hS := fun x => sb_set (seen := seen) (l := g c i) (x := x) (show (av (g c i)).toNat < seen.length by omega)
      by_cases e : q = i
      · rw [e]; exact .inr (by rw [hS]; simp)
      · exact (hdn q (by omega)).mono fun x hx => by rw [hS, hx, Bool.true_or]
    refine FC.seq (FC.region ?_)
    refine mv_ rfl rfl rfl ?_
    refine mv_ rfl rfl rfl ?_
    refine FL.pur rfl rfl (idx23 rfl rfl (by omega) (by omega)) ?_
    refine FL.sto _ rfl (st4 rfl rfl rfl hsee (hL.bv.unfr _)) ?_
    refine FL.nilK ?_
    have hLA := hL.see h (av (g c i)).toNat true
    clear hL hsee hce hcell
    obtain ⟨ba, cpa, hva, _, _⟩ := hLA.sr.formOf .active n (by simp [C, nums, hLA.al]) (by omega)
    have hac := hLA.sr.cell .active hva (av (g c i)).toNat (v := .int .i64 (rd act (av (g c i)))) (nums_at .i64 act (av (g c i)) hav0 (by rw [hLA.al]; exact hav1))
    refine FC.seq (FC.region ?_)
    refine mv_ rfl rfl rfl ?_
    refine FL.pur rfl rfl (p_nilCheck rfl) ?_
    refine FL.pur rfl rfl (fld67_6 rfl) ?_
    refine FL.val _ _ rfl rfl (p_load rfl Try.underlying41 rfl (cellEq hLA.sr.f_active hva)) ?_
    refine mv_ rfl rfl rfl ?_
    refine FL.pur rfl rfl (idx41 rfl rfl (by omega) (by omega)) ?_
    refine FL.val _ _ rfl rfl (p_load rfl Try.underlying3 rfl hac) ?_
    refine FL.pur rfl rfl (p_add rfl rfl rfl) ?_
    refine FL.pur rfl rfl (idx41 rfl rfl (by omega) (by omega)) ?_
    refine FL.sto _ rfl (st3 rfl rfl rfl hac (hLA.sr.unfr .active hva _)) ?_
    refine FL.nilK ?_
    have hLB := (hLA.tick h (IntKind.i64.wrap (rd act (av (g c i)) + 1)) hva (show (av (g c i)).toNat < n by omega)).drew
    clear hLA hac
    obtain ⟨act', hact'⟩ : ∃ act', act' = act.set (av (g c i)).toNat (IntKind.i64.wrap (rd act (av (g c i)) + 1)) := ⟨_, rfl⟩
    rw [← hact'] at hLB
    have hlc3 := hLB.sr.cell .level hvl (av (g c i)).toNat (v := .int .i64 (levA s (g c i))) (nums_at .i64 s.level (av (g c i)) hav0 (by rw [hh.llen]; exact hav1))
    obtain ⟨Am, cm, hvm, _, _⟩ := hLB.sr.lenOf .marks ks.length (by simp [C, nums, hmkl])
    have hS1 := And.intro (cellEq hLB.sr.f_level hvl) (And.intro hlc3 (cellEq hLB.sr.f_marks hvm))
    refine FC.seq ?_
    by_cases hfull : levA s (g c i) = ks.length
    · refine FC.seq (FC.draw (fun w => w.cell? ⟨g0, 4, none⟩ = some (.slice (some ⟨bl, 0, none⟩) n cpl) ∧ w.cell? ⟨bl, (av (g c i)).toNat, none⟩ = some (.int .i64 (levA s (g c i))) ∧ w.cell? ⟨g0, 8, none⟩ = some (.slice Am ks.length cm)) [] (bA 13 0) (by kernel_rfl) rfl rfl hS1 ?_)
      refine FA.pur (i := 0) (bA 13 1) rfl (by kernel_rfl) rfl rfl (p_move rfl) ?_
      refine FA.pur (i := 1) (bA 13 3) rfl (by kernel_rfl) rfl rfl (p_nilCheck rfl) ?_
      refine FA.pur (i := 2) (bA 13 7) rfl (by kernel_rfl) rfl rfl (fld67_4 rfl) ?_
      refine FA.pur (i := 4) (bA 13 23) rfl (by kernel_rfl) rfl rfl (p_move rfl) ?_
      refine FA.pur (i := 7) (bA 13 151) rfl (by kernel_rfl) rfl rfl (p_move rfl) ?_
      refine FA.pur (i := 8) (bA 13 407) rfl (by kernel_rfl) rfl rfl (p_nilCheck rfl) ?_
      refine FA.pur (i := 9) (bA 13 919) rfl (by kernel_rfl) rfl rfl (fld67_8 rfl) ?_
      refine FA.lod (i := 3) (bA 13 927) rfl (by kernel_rfl) rfl rfl hS1 (fun _ hs => p_load rfl Try.underlying41 rfl hs.1) ?_
      refine FA.pur (i := 5) (bA 13 959) rfl (by kernel_rfl) rfl rfl (idx41 rfl rfl (by omega) (by omega)) ?_
      refine FA.lod (i := 6) (bA 13 1023) rfl (by kernel_rfl) rfl rfl hS1 (fun _ hs => p_load rfl Try.underlying3 rfl hs.2.1) ?_
      refine FA.lod (i := 10) (bA 13 2047) rfl (by kernel_rfl) rfl rfl hS1 (fun _ hs => p_load rfl Try.underlying41 rfl hs.2.2) ?_
      refine FA.pur (i := 11) (bA 13 4095) rfl (by kernel_rfl) rfl rfl (p_len rfl Try.underlying41) ?_
      refine FA.pur (i := 12) (bA 13 8191) rfl (by kernel_rfl) rfl rfl (p_eql rfl rfl (decide_eq_true hfull)) ?_
      refine FA.doneK (by kernel_rfl) ?_
      refine FC.cond_t rfl ?_
      refine FC.seq (FC.region ?_)
      refine mv_ rfl rfl rfl ?_
      refine FL.pur rfl rfl (p_add rfl rfl (wr (by omega) (by omega))) ?_
      refine sg_ rfl rfl rfl ?_
      refine FL.nilK ?_
      refine FC.exit ?_
      repeat (first | with_reducible refine thn_exit ?_ | with_reducible refine nog_exit ?_ | with_reducible refine blk_pass (by decide) ?_)
      with_reducible refine blk_exit ?_
      try with_reducible refine thn_normal ?_
      refine FC.region ?_
      refine FL.pur rfl rfl (p_add rfl rfl ((wr (by omega) (by omega)).trans (show (i : Int) + 1 = ((i + 1 : Nat) : Int) by omega))) ?_
      refine mv_ rfl rfl rfl ?_
      refine FL.nil ?_
      exact ⟨(⟨j, seen.set (av (g c i)).toNat true, act', ls, op + 1, bk, b, v⟩, i + 1), ⟨rfl, rfl, rfl, rfl, rfl, rfl, rfl, rfl, rfl, trivial⟩, ⟨hLB, hJ1 hfull, hlt, hdn2, fun h5 => (by have h6 : 1 ≤ op := hopm h5; show 1 ≤ op + 1; omega)⟩, by show c.length - (i + 1) < c.length - i; omega⟩
    · refine FC.seq (FC.draw (fun w => w.cell? ⟨g0, 4, none⟩ = some (.slice (some ⟨bl, 0, none⟩) n cpl) ∧ w.cell? ⟨bl, (av (g c i)).toNat, none⟩ = some (.int .i64 (levA s (g c i))) ∧ w.cell? ⟨g0, 8, none⟩ = some (.slice Am ks.length cm)) [] (bA 13 0) (by kernel_rfl) rfl rfl hS1 ?_)
      refine FA.pur (i := 0) (bA 13 1) rfl (by kernel_rfl) rfl rfl (p_move rfl) ?_
      refine FA.pur (i := 1) (bA 13 3) rfl (by kernel_rfl) rfl rfl (p_nilCheck rfl) ?_
      refine FA.pur (i := 2) (bA 13 7) rfl (by kernel_rfl) rfl rfl (fld67_4 rfl) ?_
      refine FA.pur (i := 4) (bA 13 23) rfl (by kernel_rfl) rfl rfl (p_move rfl) ?_
      refine FA.pur (i := 7) (bA 13 151) rfl (by kernel_rfl) rfl rfl (p_move rfl) ?_
      refine FA.pur (i := 8) (bA 13 407) rfl (by kernel_rfl) rfl rfl (p_nilCheck rfl) ?_
      refine FA.pur (i := 9) (bA 13 919) rfl (by kernel_rfl) rfl rfl (fld67_8 rfl) ?_
      refine FA.lod (i := 3) (bA 13 927) rfl (by kernel_rfl) rfl rfl hS1 (fun _ hs => p_load rfl Try.underlying41 rfl hs.1) ?_
      refine FA.pur (i := 5) (bA 13 959) rfl (by kernel_rfl) rfl rfl (idx41 rfl rfl (by omega) (by omega)) ?_
      refine FA.lod (i := 6) (bA 13 1023) rfl (by kernel_rfl) rfl rfl hS1 (fun _ hs => p_load rfl Try.underlying3 rfl hs.2.1) ?_
      refine FA.lod (i := 10) (bA 13 2047) rfl (by kernel_rfl) rfl rfl hS1 (fun _ hs => p_load rfl Try.underlying41 rfl hs.2.2) ?_
      refine FA.pur (i := 11) (bA 13 4095) rfl (by kernel_rfl) rfl rfl (p_len rfl Try.underlying41) ?_
      refine FA.pur (i := 12) (bA 13 8191) rfl (by kernel_rfl) rfl rfl (p_eql rfl rfl (decide_eq_false hfull)) ?_
      refine FA.doneK (by kernel_rfl) ?_
      refine FC.cond_f rfl (FC.skip (thn_normal ?_))
      have hlsl : (0 :: ls).length < 1099511627776 := by
        have := hJ2 hfull
        have h7 := nodup_len (m := s.trail.map fun x => -x) hJ.nd fun x hx => by
          obtain ⟨t, t1, t2, _⟩ := hJ.s2 x hx
          exact List.mem_map.2 ⟨-x, by rw [← t2]; exact g_mem t1, Int.neg_neg x⟩
        rw [List.length_map] at h7
        simp only [List.length_cons]
        omega
      refine FC.seq (FC.region ?_)
      refine mv_ rfl rfl rfl ?_
      refine mv_ rfl rfl rfl ?_
      refine FL.val _ _ rfl rfl (bld41 rfl rfl) ?_
      refine FL.valG _ rfl rfl (own_app hLB.ow hlsl (g c i) (by have := hLB.bv.lt; omega) rfl rfl) ?_
      rintro v4 w4 ⟨ho4, f4⟩
      refine sg_ rfl rfl rfl ?_
      refine FL.nilK ?_
      have hLC := hLB.put h (c3 := 0 :: (ls ++ [g c i])) ho4 f4
      have hlc4 := hLC.sr.cell .level hvl (av (g c i)).toNat (v := .int .i64 (levA s (g c i))) (nums_at .i64 s.level (av (g c i)) hav0 (by rw [hh.llen]; exact hav1))
      refine FC.region ?_
      refine mv_ rfl rfl rfl ?_
      refine mv_ rfl rfl rfl ?_
      refine FL.pur rfl rfl (p_nilCheck rfl) ?_
      refine FL.pur rfl rfl (fld67_4 rfl) ?_
      refine FL.val _ _ rfl rfl (p_load rfl Try.underlying41 rfl (cellEq hLC.sr.f_level hvl)) ?_
      refine mv_ rfl rfl rfl ?_
      refine FL.pur rfl rfl (idx41 rfl rfl (by omega) (by omega)) ?_
      refine FL.val _ _ rfl rfl (p_load rfl Try.underlying3 rfl hlc4) ?_
      refine FL.pur rfl rfl (p_max rfl rfl rfl) ?_
      refine sg_ rfl rfl rfl ?_
      refine FL.nil ?_
      refine blk_normal (thn_normal ?_)
      refine FC.region ?_
      refine FL.pur rfl rfl (p_add rfl rfl ((wr (by omega) (by omega)).trans (show (i : Int) + 1 = ((i + 1 : Nat) : Int) by omega))) ?_
      refine mv_ rfl rfl rfl ?_
      refine FL.nil ?_
      exact ⟨(⟨j, seen.set (av (g c i)).toNat true, act', ls ++ [g c i], op, max bk (levA s (g c i)), b, v4⟩, i + 1), ⟨rfl, rfl, rfl, rfl, rfl, rfl, rfl, rfl, rfl, trivial⟩, ⟨hLC, hJ2 hfull, hlt, hdn2, hopm⟩, by show c.length - (i + 1) < c.length - i; omega⟩
  clear hL hJ hop hvj hlit hcj hclen
  rintro ⟨j1, seen, act, ls, op, bk, b1, v⟩ w3 ⟨hL, hJ, hop⟩
  simp only at hL hJ hop ⊢
  refine FC.cut (σ := Nat) (fun q => [(0, .pointer (some ⟨g0, 0, none⟩)), (6, .slice (some ⟨bs, 0, none⟩) n n), (7, v), (8, .int .i64 op), (9, .int .i64 q), (10, .int .i64 bk)])
    (fun q w2 => LW w B g0 n V s bs w2 seen act v (0 :: ls) ∧ J s n ks i0 (q + 1) [] seen ls op bk ∧ sb seen (g s.trail q) = true ∧ kLast ks ≤ q ∧ q < b) ?_ ?_
  · refine FC.block ?_
    refine FC.loop (σ := Nat) (fun q => [(0, .pointer (some ⟨g0, 0, none⟩)), (6, .slice (some ⟨bs, 0, none⟩) n n), (7, v), (8, .int .i64 op), (9, .int .i64 ((q : Int) - 1)), (10, .int .i64 bk)])
      (fun q w2 => LW w B g0 n V s bs w2 seen act v (0 :: ls) ∧ J s n ks i0 q [] seen ls op bk ∧ q ≤ b) (fun q => q) b ⟨hL, hJ, Nat.le_refl _⟩ ⟨rfl, rfl, rfl, rfl, rfl, rfl, trivial⟩ ?_
    clear hL hJ
    rintro q w4 ⟨hL, hJ, hqb⟩
    obtain ⟨hq0, hqk⟩ := hJ.stop hop
    have hqt := hJ.hi
    obtain ⟨r, rfl⟩ : ∃ r, q = r + 1 := ⟨q - 1, by omega⟩
    rw [show ((r + 1 : Nat) : Int) - 1 = (r : Int) by omega]
    have hL := hL.drew
    obtain ⟨bt, cpt, hvt, _, _⟩ := hL.sr.formOf .trail s.trail.length (by simp [C, nums]) (by omega)
    have htc := hL.sr.cell .trail hvt (r : Int).toNat (v := .int .i64 (g s.trail r)) (nums_at .i64 s.trail (r : Int) (by omega) (by omega))
    have htm := g_mem (d := s.trail) (t := r) (by omega)
    have hLr := hh.lit _ htm
    have hav0 := av_nn (g s.trail r)
    have hav1 := av_ltI hLr
    obtain ⟨hLr1, hLr2⟩ := hLr
    have hsl := hJ.len
    have hsee : w4.drew.cell? ⟨bs, (av (g s.trail r)).toNat, none⟩ = some (.bool (sb seen (g s.trail r))) := hL.bv.at (av (g s.trail r)).toNat (by omega)
    have hS := And.intro (cellEq hL.sr.f_trail hvt) (And.intro htc hsee)
    refine FC.seq ?_
    refine FC.seq (FC.draw (fun w => w.cell? ⟨g0, 7, none⟩ = some (.slice (some ⟨bt, 0, none⟩) s.trail.length cpt) ∧ w.cell? ⟨bt, (r : Int).toNat, none⟩ = some (.int .i64 (g s.trail r)) ∧ w.cell? ⟨bs, (av (g s.trail r)).toNat, none⟩ = some (.bool (sb seen (g s.trail r)))) [] (bA 20 0) (by kernel_rfl) rfl rfl hS ?_)
    refine FA.pur (i := 0) (bA 20 1) rfl (by kernel_rfl) rfl rfl (p_move rfl) ?_
    refine FA.pur (i := 1) (bA 20 3) rfl (by kernel_rfl) rfl rfl (p_move rfl) ?_
    refine FA.pur (i := 2) (bA 20 7) rfl (by kernel_rfl) rfl rfl (p_nilCheck rfl) ?_
    refine FA.pur (i := 3) (bA 20 15) rfl (by kernel_rfl) rfl rfl (fld67_7 rfl) ?_
    refine FA.pur (i := 5) (bA 20 47) rfl (by kernel_rfl) rfl rfl (p_move rfl) ?_
    refine FA.pur (i := 8) (bA 20 303) rfl (by kernel_rfl) rfl rfl (p_move rfl) ?_
    refine FA.pur (i := 9) (bA 20 815) rfl (by kernel_rfl) rfl rfl (p_nilCheck rfl) ?_
    refine FA.pur (i := 10) (bA 20 1839) rfl (by kernel_rfl) rfl rfl (fld67_7 rfl) ?_
    refine FA.pur (i := 12) (bA 20 5935) rfl (by kernel_rfl) rfl rfl (p_move rfl) ?_
    refine FA.lod (i := 4) (bA 20 5951) rfl (by kernel_rfl) rfl rfl hS (fun _ hs => p_load rfl Try.underlying41 rfl hs.1) ?_
    refine FA.pur (i := 6) (bA 20 6015) rfl (by kernel_rfl) rfl rfl (idx41 rfl rfl (by omega) (by omega)) ?_
    refine FA.lod (i := 7) (bA 20 6143) rfl (by kernel_rfl) rfl rfl hS (fun _ hs => p_load rfl Try.underlying3 rfl hs.2.1) ?_
    refine FA.lod (i := 11) (bA 20 8191) rfl (by kernel_rfl) rfl rfl hS (fun _ hs => p_load rfl Try.underlying41 rfl hs.1) ?_
    refine FA.pur (i := 13) (bA 20 16383) rfl (by kernel_rfl) rfl rfl (idx41 rfl rfl (by omega) (by omega)) ?_
    refine FA.lod (i := 14) (bA 20 32767) rfl (by kernel_rfl) rfl rfl hS (fun _ hs => p_load rfl Try.underlying3 rfl hs.2.1) ?_
    refine FA.pur (i := 15) (bA 20 65535) rfl (by kernel_rfl) rfl rfl (p_neg rfl (wr (by omega) (by omega))) ?_
    refine FA.pur (i := 16) (bA 20 131071) rfl (by kernel_rfl) rfl rfl (p_max rfl rfl (av_max (g s.trail r))) ?_
    refine FA.pur (i := 17) (bA 20 262143) rfl (by kernel_rfl) rfl rfl (idx23 rfl rfl (by omega) (by omega)) ?_
    refine FA.lod (i := 18) (bA 20 524287) rfl (by kernel_rfl) rfl rfl hS (fun _ hs => p_load rfl Try.underlying4 rfl hs.2.2) ?_
    refine FA.pur (i := 19) (bA 20 1048575) rfl (by kernel_rfl) rfl rfl (p_not rfl) ?_
    refine FA.doneK (by kernel_rfl) ?_
    cases hsn : sb seen (g s.trail r) with
    | true =>
      refine FC.cond_f rfl (FC.exit ?_)
      exact thn_exit (thn_exit (blk_exit ⟨r, ⟨rfl, rfl, rfl, rfl, rfl, rfl, trivial⟩, hL, hJ, hsn, by omega, by omega⟩))
    | false =>
      refine FC.cond_t rfl (FC.skip (thn_normal ?_))
      refine FC.block ?_
      refine FC.region ?_
      refine mv_ rfl rfl rfl ?_
      refine FL.pur rfl rfl (p_sub rfl rfl (wr (by omega) (by omega))) ?_
      refine sg_ rfl rfl rfl ?_
      refine FL.nil ?_
      refine blk_normal (thn_normal ?_)
      exact ⟨r, ⟨rfl, rfl, rfl, rfl, rfl, rfl, trivial⟩, ⟨hL, hJ.pass hsn, by omega⟩, by show r < r + 1; omega⟩
  clear hL hJ
  rintro q w4 ⟨hL, hJ, hsn, hkq, hqb⟩
  have hqt := hJ.hi
  obtain ⟨bt, cpt, hvt, _, _⟩ := hL.sr.formOf .trail s.trail.length (by simp [C, nums]) (by omega)
  have htc := hL.sr.cell .trail hvt (q : Int).toNat (v := .int .i64 (g s.trail q)) (nums_at .i64 s.trail (q : Int) (by omega) (by omega))
  have htm := g_mem (d := s.trail) (t := q) (by omega)
  have hLr := hh.lit _ htm
  have hav0 := av_nn (g s.trail q)
  have hav1 := av_ltI hLr
  obtain ⟨hLr1, hLr2⟩ := hLr
  have hopn := hJ.op
  have hcn := cnt_le (fun t => decide (kLast ks ≤ t) && sb seen (g s.trail t)) (q + 1)
  refine FC.seq (FC.region ?_)
  refine mv_ rfl rfl rfl ?_
  refine FL.pur rfl rfl (p_nilCheck rfl) ?_
  refine FL.pur rfl rfl (fld67_7 rfl) ?_
  refine FL.val _ _ rfl rfl (p_load rfl Try.underlying41 rfl (cellEq hL.sr.f_trail hvt)) ?_
  refine mv_ rfl rfl rfl ?_
  refine FL.pur rfl rfl (idx41 rfl rfl (by omega) (by omega)) ?_
  refine FL.val _ _ rfl rfl (p_load rfl Try.underlying3 rfl htc) ?_
  refine sg_ rfl rfl rfl ?_
  refine FL.nilK ?_
  refine FC.seq (FC.region ?_)
  refine mv_ rfl rfl rfl ?_
  refine FL.pur rfl rfl (p_sub rfl rfl (wr (by omega) (by omega))) ?_
  refine sg_ rfl rfl rfl ?_
  refine FL.nilK ?_
  refine FC.seq (FC.region ?_)
  refine mv_ rfl rfl rfl ?_
  refine FL.pur rfl rfl (p_sub rfl rfl (wr (by omega) (by omega))) ?_
  refine sg_ rfl rfl rfl ?_
  refine FL.nilK ?_
  refine FC.seq ?_
  refine FC.seq (FC.region ?_)
  refine mv_ rfl rfl rfl ?_
  refine FL.pur rfl rfl (p_eql rfl rfl rfl) ?_
  refine FL.nilK ?_
  by_cases hz : op - 1 = 0
  · refine FC.cond_t (by rw [show decide (op - 1 = 0) = true from decide_eq_true hz]; rfl) ?_
    have hR := hJ.done hh h0 hsn hkq hz hsrc hc
    obtain ⟨bq, cq, hvq, ⟨z, hz1⟩, hz2, hL2⟩ := hL.first h (by simp) (-(g s.trail q))
    rw [hvq]
    refine FC.seq (FC.region ?_)
    refine mv_ rfl rfl rfl ?_
    refine mv_ rfl rfl rfl ?_
    refine FL.pur rfl rfl (p_neg rfl (wr (by omega) (by omega))) ?_
    refine FL.pur rfl rfl (idx41 rfl rfl (by decide) (by simp only [List.length_cons]; omega)) ?_
    refine FL.sto _ rfl (st3 rfl rfl rfl hz1 hz2) ?_
    refine FL.nilK ?_
    refine FC.seq (FC.region ?_)
    refine mv_ rfl rfl rfl ?_
    refine mv_ rfl rfl rfl ?_
    refine sg_ rfl rfl rfl ?_
    refine sg_ rfl rfl rfl ?_
    refine FL.nilK ?_
    refine FC.ret ?_
    repeat with_reducible first | refine thn_ret ?_ | refine blk_ret ?_ | refine nog_ret ?_
    rw [hvq] at hL2
    exact ret2 Try.results52 rfl rfl ⟨_, bk, q, ls, act, rfl, hR, hL2.sr, hL2.al, hL2.go, hL2.own h, fun k hk => by have := (hL2.ow.lt k hk).1; omega⟩
  · refine FC.cond_f (by rw [show decide (op - 1 = 0) = false from decide_eq_false hz]; rfl) (FC.skip (thn_normal ?_))
    obtain ⟨p1, p2, p3, p4⟩ := hJ.pop hh h0 hsn hkq hz
    obtain ⟨r, hr⟩ : ∃ r, r = reaA s (g s.trail q) := ⟨_, rfl⟩
    rw [← hr] at p2 p3
    have hL := hL.drew
    obtain ⟨w1', w2', _, _⟩ := p2
    obtain ⟨br, cpr, hvr, _, _⟩ := hL.sr.formOf .reason n (by simp [C, nums, hh.rlen]) (by omega)
    have hrc := hL.sr.cell .reason hvr (av (g s.trail q)).toNat (v := .int .i64 (reaA s (g s.trail q))) (nums_at .i64 s.reason (av (g s.trail q)) hav0 (by rw [hh.rlen]; exact hav1))
    rw [← hr] at hrc
    obtain ⟨bc, cc, hvc, _, _⟩ := hL.sr.formOf .clauses s.clauses.length (by simp [C, rowsOf_length]) (by omega)
    have hcl := hL.sr.cell .clauses hvc r.toNat (v := V (.clause r.toNat)) (rowsOf_get (fun i => V (.clause i)) s.clauses.length r.toNat w2')
    have hS := And.intro (And.intro (cellEq hL.sr.f_clauses hvc) (cellEq hL.sr.f_reason hvr)) (And.intro hrc hcl)
    refine (FC.draw (fun w => (w.cell? ⟨g0, 1, none⟩ = some (.slice (some ⟨bc, 0, none⟩) s.clauses.length cc) ∧ w.cell? ⟨g0, 5, none⟩ = some (.slice (some ⟨br, 0, none⟩) n cpr)) ∧ w.cell? ⟨br, (av (g s.trail q)).toNat, none⟩ = some (.int .i64 r) ∧ w.cell? ⟨bc, r.toNat, none⟩ = some (V (.clause r.toNat))) [] (bA 17 0) (by kernel_rfl) rfl rfl hS ?_)
    refine FA.pur (i := 0) (bA 17 1) rfl (by kernel_rfl) rfl rfl (p_move rfl) ?_
    refine FA.pur (i := 1) (bA 17 3) rfl (by kernel_rfl) rfl rfl (p_nilCheck rfl) ?_
    refine FA.pur (i := 2) (bA 17 7) rfl (by kernel_rfl) rfl rfl (fld67_1 rfl) ?_
    refine FA.pur (i := 4) (bA 17 23) rfl (by kernel_rfl) rfl rfl (p_move rfl) ?_
    refine FA.pur (i := 5) (bA 17 55) rfl (by kernel_rfl) rfl rfl (p_nilCheck rfl) ?_
    refine FA.pur (i := 6) (bA 17 119) rfl (by kernel_rfl) rfl rfl (fld67_5 rfl) ?_
    refine FA.pur (i := 8) (bA 17 375) rfl (by kernel_rfl) rfl rfl (p_move rfl) ?_
    refine FA.pur (i := 9) (bA 17 887) rfl (by kernel_rfl) rfl rfl (p_move rfl) ?_
    refine FA.pur (i := 10) (bA 17 1911) rfl (by kernel_rfl) rfl rfl (p_neg rfl (wr (by omega) (by omega))) ?_
    refine FA.pur (i := 11) (bA 17 3959) rfl (by kernel_rfl) rfl rfl (p_max rfl rfl (av_max (g s.trail q))) ?_
    refine FA.lod (i := 3) (bA 17 3967) rfl (by kernel_rfl) rfl rfl hS (fun _ hs => p_load rfl Try.underlying22 rfl hs.1.1) ?_
    refine FA.lod (i := 7) (bA 17 4095) rfl (by kernel_rfl) rfl rfl hS (fun _ hs => p_load rfl Try.underlying41 rfl hs.1.2) ?_
    refine FA.pur (i := 12) (bA 17 8191) rfl (by kernel_rfl) rfl rfl (idx41 rfl rfl (by omega) (by omega)) ?_
    refine FA.lod (i := 13) (bA 17 16383) rfl (by kernel_rfl) rfl rfl hS (fun _ hs => p_load rfl Try.underlying3 rfl hs.2.1) ?_
    refine FA.pur (i := 14) (bA 17 32767) rfl (by kernel_rfl) rfl rfl (idx22 rfl rfl (by omega) (by omega)) ?_
    refine FA.lod (i := 15) (bA 17 65535) rfl (by kernel_rfl) rfl rfl hS (fun _ hs => p_load rfl Try.underlying41 rfl hs.2.2) ?_
    refine FA.pur (i := 16) (bA 17 131071) rfl (by kernel_rfl) rfl rfl (p_assign rfl) ?_
    refine FA.done (by kernel_rfl) ?_
    refine blk_normal (thn_normal ?_)
    exact ⟨⟨r, seen, act, ls, op - 1, bk, q, v⟩, ⟨rfl, rfl, rfl, rfl, rfl, rfl, rfl, trivial⟩, ⟨hL, p3, ⟨w1', w2'⟩, .inl p4⟩, hqb⟩
end
end Go.Proofs.Ytcahhbcehnbdkaa.Sv

/- Structs that lie in memory or are answered. -/
namespace Go.Proofs.Ytcahhbcehnbdkaa.Eng
open Go.RowKit Go.Proofs.YtcahhbcehnbdkaaW.PrintWords Go.Proofs.YtcahhbcehnbdkaaW.PrintLast
section
variable {P : Program} {N : Nat} {fn : Func} {R : Ending → World → Prop} {ρ : Env} {dst : Option Tmp} {ty : TypeId} {pos : String} {af : Array Edge} {gd : Option (Nat × Bool)} {x y : Operand} {t t' : TypeId} {w : World} {b : Nat} {cs old : Array Value} {d : TypeDesc}
theorem p_allocA {inf : TypeInfo} {z : Value} (hi : P.info? t = some inf) (hz : inf.zero = some z) :
    Val P ρ ⟨dst, .alloc t, ty, pos, af, gd⟩ w (.pointer (some ⟨w.heap.size, 0, none⟩)) (w.alloc (.cells z.cells t)) := fun a ha => by
  simp [execOp, Instr.alloc, zeroValue, typeInfo, hi, hz, newVar, newRow, newObj, Sem.run, World.alloc_eq]
theorem p_storeA (hx : ev ρ x = some (.pointer (some ⟨b, 0, none⟩))) (hy : ev ρ y = some (.agg cs)) (hg : w.heap[b]? = some (.cells old t' (0, 0))) (hi : (P.info? t).map (·.size) = some cs.size) (ho : old.size = cs.size) (h1 : cs.all (·.oneCell') = true) :
    Sto P ρ ⟨dst, .store t x y, ty, pos, af, gd⟩ w (w.setRow b cs) := fun a ha => by
  have h := run_storeVar_row (P := P) w b t' t old cs hg hi ho h1
  simp [execOp, Instr.storeAt, Instr.sureAddr, ha.ev hx, ha.ev hy, h]
theorem p_loadA (hx : ev ρ x = some (.pointer (some ⟨b, 0, none⟩))) (hu : P.underlying t = some d) (hd : (match d with | .struct _ | .array _ _ => true | _ => false) = true) (hg : w.heap[b]? = some (.cells cs t' (0, 0))) (hi : (P.info? t).map (·.size) = some cs.size) :
    Val P ρ ⟨dst, .load t x, ty, pos, af, gd⟩ w (.agg cs) w := fun a ha => by
  have h := run_loadVar_row (P := P) w b t' t cs (0, 0) d hg hu hd hi
  simp [execOp, Instr.loadAt, Instr.sureAddr, ha.ev hx, h]
theorem retC {p : Nat} (hr : fn.results = #[.cell p t]) (hv : ρ.get p = some (.pointer (some ⟨b, 0, none⟩))) (hg : w.heap[b]? = some (.cells cs t' (0, 0))) (hu : P.underlying t = some d) (hd : (match d with | .struct _ | .array _ _ => true | _ => false) = true) (hi : (P.info? t).map (·.size) = some cs.size) (h : R (.returned (.agg cs)) w) : fpost P N fn R .ret ρ w :=
  ⟨_, fun a ha => results_cell_row hr a.tmps w b t' cs (0, 0) d (ha p _ hv) hg hu hd hi, h⟩
theorem retC2 {p u : Nat} {z : Value} (hr : fn.results = #[.cell p t, .tmp u]) (hv : ρ.get p = some (.pointer (some ⟨b, 0, none⟩))) (hz : ρ.get u = some z) (hg : w.heap[b]? = some (.cells cs t' (0, 0))) (hu : P.underlying t = some d) (hd : (match d with | .struct _ | .array _ _ => true | _ => false) = true) (hi : (P.info? t).map (·.size) = some cs.size) (h : R (.returned (.tuple #[.agg cs, z])) w) : fpost P N fn R .ret ρ w :=
  ⟨_, fun a ha => by
    have h1 := run_loadVar_row (P := P) w b t' t cs (0, 0) d hg hu hd hi
    rw [results_cell_tmp hr, ha p _ hv, ha u _ hz]
    simp [asAddr, h1, Result.andThen], h⟩
end
theorem setRow_other (w : World) (b k : Nat) (cs : Array Value) (h : k ≠ b) : (w.setRow b cs).heap[k]? = w.heap[k]? := by
  simp only [World.setRow, Array.getElem?_modify]
  rw [if_neg (fun e => h e.symm)]
noncomputable def inf36 : TypeInfo := (Try.prog.info? 36).getD default
theorem inf36_eq : Try.prog.info? 36 = some inf36 := by kernel_rfl
theorem inf36_zero : inf36.zero = some (.agg #[.int .u8 0, .slice none 0 0, .slice none 0 0]) := by kernel_rfl
theorem inf36_size : (Try.prog.info? 36).map (·.size) = some 3 := by kernel_rfl
end Go.Proofs.Ytcahhbcehnbdkaa.Eng

/- Walks of the reference: Follows. -/
namespace Go.Proofs.Ytcahhbcehnbdkaa.Sv
open Go.RowKit Go.Proofs.YtcahhbcehnbdkaaW.PrintWords Go.Proofs.YtcahhbcehnbdkaaW.PrintLast Go.Proofs.Ytcahhbcehnbdkaa.Eng
section
variable {w w' : World} {B m : Nat} {vs : List Int} {Φ : List (List Int)} {c : List Int}
theorem vec_made (w : World) (m : Nat) : Vec (w.alloc (.cells (madeCells #[.int .i64 0] (m + 1)) 3)) w.heap.size (List.replicate (m + 1) 0) :=
  ⟨_, heap_alloc_new w _, by rw [toList_madeCells_one]; simp [nums]⟩
theorem Fa.new (m : Nat) (c : List Int) : Fa m c 0 (List.replicate (m + 1) 0) := ⟨vo_new m, fun x _ _ => by
  have h0 : ∀ i : Int, rd (List.replicate (m + 1) 0) i = 0 := fun i => by
    unfold rd
    rw [List.getD_eq_getElem?_getD, List.getElem?_replicate]
    split <;> rfl
  have : sg (List.replicate (m + 1) 0) x = 0 := by unfold sg; split <;> simp [h0]
  rw [this]; simp⟩
theorem Fa.step {i : Nat} (hF : Fa m c i vs) (hcc : ∀ l ∈ c, Lit (m + 1) l ∧ l ≠ 0) (hil : i < c.length) (c1 : sg vs (g c i) ≠ 1) : Fa m c (i + 1) (pt vs (-(g c i))) := ⟨hF.vo.pt _, fun x hx hxz => by
  obtain ⟨hL, hz⟩ := hcc (g c i) (rd_mem c i (by omega) (by omega))
  have et : c.take (i + 1) = c.take i ++ [g c i] := by
    rw [List.take_add_one, List.getElem?_eq_getElem hil]
    simp [g, List.getElem?_eq_getElem hil]
  rw [et, List.mem_append, List.mem_singleton]
  by_cases e : (av (-(g c i))).toNat = (av x).toNat
  · rcases av_inj e with e | e
    · subst e
      rw [sg_pt_self hF.vo hL.neg]
      simp
    · have e2 : x = g c i := by omega
      subst e2
      have h3 := sg_pt_self hF.vo hL.neg
      rw [sg_neg hz] at h3
      constructor
      · intro h4; omega
      · rintro (h4 | h4)
        · exact absurd ((hF.iff _ hL hz).2 h4) c1
        · omega
  · rw [sg_pt_other e, hF.iff x hx hxz]
    constructor
    · exact .inl
    · rintro (h4 | h4)
      · exact h4
      · exact absurd (by rw [av_neg, ← h4, av_neg]) e⟩
theorem Fa.fo (hF : Fa m c c.length vs) (hcc : ∀ l ∈ c, Lit (m + 1) l ∧ l ≠ 0) : Fo m Φ c vs ∧ ¬ Taut c := by
  have hiff : ∀ x, Lit (m + 1) x → x ≠ 0 → (sg vs x = 1 ↔ -x ∈ c) := fun x hx hz => by rw [hF.iff x hx hz, List.take_of_length_le (Nat.le_refl _)]
  have hF' : Fo m Φ c vs := ⟨hF.vo, fun l hl => (hiff _ (hcc l hl).1.neg (by have := (hcc l hl).2; omega)).2 (by rwa [Int.neg_neg]), fun x hx hz h1 => .base ((hiff x hx hz).1 h1)⟩
  refine ⟨hF', fun ⟨l, h1, h2⟩ => ?_⟩
  have e1 := hF'.has l h1
  have e2 := hF'.has _ h2
  rw [Int.neg_neg] at e2
  rw [sg_neg (hcc l h1).2] at e1
  omega
/-- What Follows answers. -/
def FolR (Φ : List (List Int)) (c : List Int) (w : World) (e : Ending) (w' : World) : Prop := (∃ b : Bool, e = .returned (.bool b) ∧ (b = true ↔ Taut c ∨ Conf Φ fun l => -l ∈ c)) ∧ Fr (fun _ => False) w w'
set_option maxHeartbeats 4000000 in
theorem reffollows_calls {v u : Value} (h1 : Rws w B v Φ) (h2 : Row w B u c) (hB : B ≤ w.heap.size) (hm : m ≤ 5000) (hΦ : ∀ d ∈ Φ, ∀ l ∈ d, Lit (m + 1) l ∧ l ≠ 0) (hlc : ∀ l ∈ c, Lit (m + 1) l ∧ l ≠ 0) (hn : Φ.length < 4611686018427387904) (hl : ∀ d ∈ Φ, d.length < 4611686018427387904) (hcl : c.length < 4611686018427387904) :
    Calls Try.prog 40 #[.int .i64 m, v, u] w (FolR Φ c w) := by
  have h1' := h1
  have h2' := h2
  obtain ⟨A1, cap1, rfl, hc1⟩ := h1
  obtain ⟨A2, cap2, rfl, hc2⟩ := h2
  refine calls_of_FC (N := 59) (vs := [.int .i64 m, .slice A1 Φ.length cap1, .slice A2 c.length cap2]) Try.func40 rfl Try.ntmps40 (Nat.le_of_ble_eq_true rfl) ?_
  refine FC.seq (FC.region ?_)
  refine sg_ rfl rfl rfl ?_
  refine FL.nilK ?_
  refine FC.seq (FC.region ?_)
  refine mv_ rfl rfl rfl ?_
  refine FL.pur rfl rfl (p_add rfl rfl ((wr (by omega) (by omega)).trans (show (m : Int) + 1 = ((m + 1 : Nat) : Int) by omega))) ?_
  refine FL.val _ _ rfl rfl (p_make rfl Try.underlying41 i41 rfl (by omega) (by omega)) ?_
  refine sg_ rfl rfl rfl ?_
  refine FL.nilK ?_
  obtain ⟨b, hb⟩ : ∃ b, b = w.heap.size := ⟨_, rfl⟩
  obtain ⟨w1, hw1⟩ : ∃ w1, w1 = w.alloc (.cells (madeCells #[.int .i64 0] (m + 1)) 3) := ⟨_, rfl⟩
  have hv1 : Vec w1 b (List.replicate (m + 1) 0) := by rw [hw1, hb]; exact vec_made w m
  have f1 : Fr (fun _ => False) w w1 := by rw [hw1]; exact (Fr.refl _ w).alloc _
  rw [← hw1, ← hb]
  have nb : ∀ k, k < B → ¬ (k = b) := fun k hk e => by omega
  refine FC.cut (σ := List Int) (fun vs => [(1, .slice A1 Φ.length cap1), (7, .slice (some ⟨b, 0, none⟩) (m + 1) (m + 1))]) (fun vs w2 => Vec w2 b vs ∧ Fr (fun _ => False) w w2 ∧ Fa m c c.length vs) ?_ ?_
  · refine FC.seq (FC.region ?_)
    refine sg_ rfl rfl rfl ?_
    refine FL.nilK ?_
    refine FC.block ?_
    refine FC.loop (σ := Nat × List Int) (fun x => [(1, .slice A1 Φ.length cap1), (2, .slice A2 c.length cap2), (7, .slice (some ⟨b, 0, none⟩) (m + 1) (m + 1)), (8, .int .i64 x.1)]) (fun x w2 => Vec w2 b x.2 ∧ Fr (fun _ => False) w w2 ∧ x.1 ≤ c.length ∧ Fa m c x.1 x.2) (fun x => c.length - x.1) (0, List.replicate (m + 1) 0) ⟨hv1, f1, Nat.zero_le _, Fa.new m c⟩ ⟨rfl, rfl, rfl, rfl, trivial⟩ ?_
    rintro ⟨i, vs⟩ w2 ⟨hv, hf, hi, hF⟩
    simp only at hv hf hi hF ⊢
    refine FC.seq ?_
    refine FC.seq (FC.region ?_)
    refine mv_ rfl rfl rfl ?_
    refine mv_ rfl rfl rfl ?_
    refine FL.pur rfl rfl (p_len rfl Try.underlying41) ?_
    refine FL.pur rfl rfl (p_lss rfl rfl rfl) ?_
    refine FL.nilK ?_
    refine FC.cond (decide ((i : Int) < (c.length : Int))) rfl (fun hcc => FC.skip (thn_normal ?_)) (fun hcc => FC.exit ?_)
    rotate_left
    · have hge : ¬ (i : Int) < (c.length : Int) := of_decide_eq_false hcc
      have e : i = c.length := by omega
      subst e
      exact thn_exit (thn_exit (blk_exit ⟨vs, ⟨rfl, rfl, trivial⟩, hv, hf, hF⟩))
    have hlt : i < c.length := by have := of_decide_eq_true hcc; omega
    obtain ⟨ad, rfl, hadB, hce⟩ := hc2 i hlt
    have hce : w2.cell? (ad.add (i : Int).toNat) = some (.int .i64 (g c i)) := hf.cell hce fun h => h
    obtain ⟨hL, hz⟩ := hlc (g c i) (rd_mem c i (by omega) (by omega))
    have hLn := hL.neg
    have hzn : -(g c i) ≠ 0 := by omega
    obtain ⟨hL1, hL2⟩ := hL
    have hvl := hF.vo.len
    have ks := sign_calls (hv.row hv.lt (m + 1)) hm hF.vo ⟨hL1, hL2⟩ hz
    have kp := putv_calls (cap := m + 1) hv hm hF.vo hLn hzn
    rw [hvl] at ks kp
    refine FC.seq ?_
    refine FC.block ?_
    refine FC.seq ?_
    refine FC.seq (FC.region ?_)
    refine mv_ rfl rfl rfl ?_
    refine mv_ rfl rfl rfl ?_
    refine mv_ rfl rfl rfl ?_
    refine FL.pur rfl rfl (p_indexA rfl rfl Try.underlying41 inf3_eq inf3_size (by omega) (by omega)) ?_
    refine FL.val _ _ rfl rfl (p_load rfl Try.underlying3 rfl hce) ?_
    refine FL.call rfl rfl (p_call Try.func49 rfl rfl rfl) (ks) ?_
    rintro e_ w_ ⟨rfl, rfl⟩
    refine ⟨_, rfl, ?_⟩
    refine FL.pur rfl rfl (p_eql rfl rfl rfl) ?_
    refine FL.nilK ?_
    refine FC.cond (decide (sg vs (g c i) = 1)) rfl (fun hcc => ?_) (fun hcc => FC.skip (thn_normal ?_))
    · have c1 := of_decide_eq_true hcc
      refine FC.seq (FC.region ?_)
      refine sg_ rfl rfl rfl ?_
      refine FL.nilK ?_
      refine FC.ret ?_
      repeat with_reducible first | refine thn_ret ?_ | refine blk_ret ?_ | refine nog_ret ?_
      exact ret1 Try.results40 rfl ⟨⟨true, rfl, ⟨fun _ => .inl ⟨g c i, rd_mem c i (by omega) (by omega), List.mem_of_mem_take ((hF.iff _ ⟨hL1, hL2⟩ hz).1 c1)⟩, fun _ => rfl⟩⟩, hf⟩
    have c1 := of_decide_eq_false hcc
    refine FC.region ?_
    refine mv_ rfl rfl rfl ?_
    refine mv_ rfl rfl rfl ?_
    refine mv_ rfl rfl rfl ?_
    refine FL.pur rfl rfl (p_indexA rfl rfl Try.underlying41 inf3_eq inf3_size (by omega) (by omega)) ?_
    refine FL.val _ _ rfl rfl (p_load rfl Try.underlying3 rfl hce) ?_
    refine FL.pur rfl rfl (p_neg rfl (wr (by omega) (by omega))) ?_
    refine FL.call rfl rfl (p_call Try.func50 rfl rfl rfl) (kp) ?_
    rintro e_ w_ ⟨rfl, hv2, f2⟩
    refine ⟨_, rfl, ?_⟩
    refine FL.nil ?_
    refine blk_normal (thn_normal ?_)
    refine FC.region ?_
    refine mv_ rfl rfl rfl ?_
    refine FL.pur rfl rfl (p_add rfl rfl ((wr (by omega) (by omega)).trans (show (i : Int) + 1 = ((i + 1 : Nat) : Int) by omega))) ?_
    refine sg_ rfl rfl rfl ?_
    refine FL.nil ?_
    exact ⟨(i + 1, pt vs (-(g c i))), ⟨rfl, rfl, rfl, rfl, trivial⟩, ⟨hv2, hf.trans f2 fun k hk => .inr (by rw [hk, hb]; exact Nat.le_refl _), hlt, hF.step hlc hlt c1⟩, by show c.length - (i + 1) < c.length - i; omega⟩
  rintro vs1 w2 ⟨hv, hf, hF⟩
  obtain ⟨hFo, hnt⟩ := hF.fo (Φ := Φ) hlc
  clear hF
  refine FC.seq (FC.region ?_)
  refine sg_ rfl rfl rfl ?_
  refine FL.nilK ?_
  refine FC.cut (σ := Unit) (fun _ => []) (fun _ w2 => Fr (fun _ => False) w w2 ∧ ¬ Conf Φ fun l => -l ∈ c) ?_ ?_
  · refine FC.block ?_
    refine FC.loop (σ := List Int × Bool) (fun x => [(1, .slice A1 Φ.length cap1), (7, .slice (some ⟨b, 0, none⟩) (m + 1) (m + 1)), (9, .bool x.2)]) (fun x w2 => Vec w2 b x.1 ∧ Fr (fun _ => False) w w2 ∧ Fo m Φ c x.1 ∧ (x.2 = false → ∀ j, j < Φ.length → unitL x.1 (Φ.getD j []) 0 = (0, true))) (fun x => 2 * zeros x.1 + (if x.2 then 1 else 0)) (vs1, true) ⟨hv, hf, hFo, fun h => by cases h⟩ ⟨rfl, rfl, rfl, trivial⟩ ?_
    clear hv hf hFo
    rintro ⟨vs0, ch0⟩ w2 ⟨hv, hf, hFo, hu⟩
    simp only at hv hf hFo hu ⊢
    refine FC.seq ?_
    refine FC.seq (FC.region ?_)
    refine mv_ rfl rfl rfl ?_
    refine FL.nilK ?_
    refine FC.cond ch0 rfl (fun hcc => FC.skip (thn_normal ?_)) (fun hcc => FC.exit ?_)
    rotate_left
    · exact thn_exit (thn_exit (blk_exit ⟨(), trivial, hf, hFo.closed hΦ hlc fun d hd => by
        obtain ⟨q, hq, rfl⟩ := List.mem_iff_getElem.1 hd
        have := hu hcc q (by omega)
        rwa [List.getD_eq_getElem?_getD, List.getElem?_eq_getElem hq] at this⟩))
    subst hcc
    clear hu
    refine FC.block ?_
    refine FC.seq (FC.region ?_)
    refine sg_ rfl rfl rfl ?_
    refine FL.nilK ?_
    refine FC.seq (FC.region ?_)
    refine sg_ rfl rfl rfl ?_
    refine FL.nilK ?_
    refine FC.block ?_
    refine FC.loop (σ := Nat × List Int × Bool) (fun x => [(1, .slice A1 Φ.length cap1), (7, .slice (some ⟨b, 0, none⟩) (m + 1) (m + 1)), (9, .bool x.2.2), (10, .int .i64 x.1)]) (fun x w2 => Vec w2 b x.2.1 ∧ Fr (fun _ => False) w w2 ∧ Fo m Φ c x.2.1 ∧ x.1 ≤ Φ.length ∧ (x.2.2 = true → zeros x.2.1 < zeros vs0) ∧ (x.2.2 = false → x.2.1 = vs0 ∧ ∀ j, j < x.1 → unitL x.2.1 (Φ.getD j []) 0 = (0, true))) (fun x => Φ.length - x.1) (0, vs0, false)
      ⟨hv, hf, hFo, Nat.zero_le _, fun h => (by cases h), fun _ => ⟨rfl, fun j hj => absurd hj (Nat.not_lt_zero _)⟩⟩ ⟨rfl, rfl, rfl, rfl, trivial⟩ ?_
    clear hv hf hFo
    rintro ⟨i, vs, ch⟩ w2 ⟨hv, hf, hFo, hi, hz1, hz2⟩
    simp only at hv hf hFo hi hz1 hz2 ⊢
    refine FC.seq ?_
    refine FC.seq (FC.region ?_)
    refine mv_ rfl rfl rfl ?_
    refine mv_ rfl rfl rfl ?_
    refine FL.pur rfl rfl (p_len rfl Try.underlying22) ?_
    refine FL.pur rfl rfl (p_lss rfl rfl rfl) ?_
    refine FL.nilK ?_
    refine FC.cond (decide ((i : Int) < (Φ.length : Int))) rfl (fun hcc => FC.skip (thn_normal ?_)) (fun hcc => FC.exit ?_)
    rotate_left
    · have hge : ¬ (i : Int) < (Φ.length : Int) := of_decide_eq_false hcc
      refine thn_exit (thn_exit (blk_exit (blk_normal ⟨(vs, ch), ⟨rfl, rfl, rfl, trivial⟩, ⟨hv, hf, hFo, fun h j hj => (hz2 h).2 j (by omega)⟩, ?_⟩)))
      show 2 * zeros vs + (if ch = true then 1 else 0) < 2 * zeros vs0 + 1
      cases ch with
      | true => have := hz1 rfl; simp; omega
      | false => rw [(hz2 rfl).1]; simp
    have hlt : i < Φ.length := by have := of_decide_eq_true hcc; omega
    obtain ⟨ad, u, rfl, hadB, hcu, hru⟩ := hc1 i hlt
    have hcu : w2.cell? (ad.add (i : Int).toNat) = some u := hf.cell hcu fun h => h
    have hru : Row w2 w2.heap.size u (Φ.getD i []) := (hru.fr hf fun _ _ h => h).mono (by have := hf.size; omega)
    have hd : Φ.getD i [] ∈ Φ := mem_getD hlt
    have hvl := hFo.vo.len
    have ku := unit_calls (hv.row hv.lt (m + 1)) hru hm hFo.vo (hΦ _ hd) (hl _ hd)
    rw [hvl] at ku
    refine FC.seq ?_
    refine FC.block ?_
    obtain ⟨x1, x2, hx⟩ : ∃ x1 x2, unitL vs (Φ.getD i []) 0 = (x1, x2) := ⟨_, _, rfl⟩
    rw [hx] at ku
    refine FC.seq (FC.region ?_)
    refine mv_ rfl rfl rfl ?_
    refine mv_ rfl rfl rfl ?_
    refine mv_ rfl rfl rfl ?_
    refine FL.pur rfl rfl (p_indexA rfl rfl Try.underlying22 inf41_eq inf41_size (by omega) (by omega)) ?_
    refine FL.val _ _ rfl rfl (p_load rfl Try.underlying41 rfl hcu) ?_
    refine FL.call rfl rfl (p_call Try.func51 rfl rfl rfl) (ku) ?_
    rintro e_ w_ ⟨rfl, rfl⟩
    refine ⟨_, rfl, ?_⟩
    refine mv_ rfl rfl rfl ?_
    refine FL.pur rfl rfl (p_extract rfl rfl) ?_
    refine FL.pur rfl rfl (p_extract rfl rfl) ?_
    refine sg_ rfl rfl rfl ?_
    refine sg_ rfl rfl rfl ?_
    refine FL.nilK ?_
    refine FC.seq ?_
    refine FC.seq (FC.region ?_)
    refine mv_ rfl rfl rfl ?_
    refine FL.pur rfl rfl (p_not rfl) ?_
    refine FL.nilK ?_
    cases x2 with
    | false =>
      refine FC.cond_t rfl ?_
      refine FC.seq (FC.region ?_)
      refine sg_ rfl rfl rfl ?_
      refine FL.nilK ?_
      refine FC.ret ?_
      repeat with_reducible first | refine thn_ret ?_ | refine blk_ret ?_ | refine nog_ret ?_
      exact ret1 Try.results40 rfl ⟨⟨true, rfl, ⟨fun _ => .inr (hFo.conf hΦ hd (unit_no hFo.vo _ 0 _ (hΦ _ hd) hx).2), fun _ => rfl⟩⟩, hf⟩
    | true =>
      refine FC.cond_f rfl (FC.skip (thn_normal ?_))
      by_cases c0 : x1 = 0
      · subst c0
        refine FC.seq (FC.region ?_)
        refine mv_ rfl rfl rfl ?_
        refine FL.pur rfl rfl (p_neq rfl rfl (show _ = !false from rfl)) ?_
        refine FL.nilK ?_
        refine FC.cond_f rfl (FC.skip ?_)
        refine blk_normal (thn_normal ?_)
        refine FC.region ?_
        refine mv_ rfl rfl rfl ?_
        refine FL.pur rfl rfl (p_add rfl rfl ((wr (by omega) (by omega)).trans (show (i : Int) + 1 = ((i + 1 : Nat) : Int) by omega))) ?_
        refine sg_ rfl rfl rfl ?_
        refine FL.nil ?_
        exact ⟨(i + 1, vs, ch), ⟨rfl, rfl, rfl, rfl, trivial⟩, ⟨hv, hf, hFo, hlt, hz1, fun h => ⟨(hz2 h).1, fun j hj => by
          by_cases e : j = i
          · rw [e]; exact hx
          · exact (hz2 h).2 j (by omega)⟩⟩, by show Φ.length - (i + 1) < Φ.length - i; omega⟩
      · obtain ⟨_, p, q⟩ := unit_one hFo.vo _ 0 x1 (hΦ _ hd) hx c0
        obtain ⟨p1, p2⟩ := p.resolve_left c0
        have kp := putv_calls (cap := m + 1) hv hm hFo.vo (hΦ _ hd x1 p1).1 c0
        rw [hvl] at kp
        have hzz := zeros_pt hFo.vo (hΦ _ hd x1 p1).1 p2
        refine FC.seq (FC.region ?_)
        refine mv_ rfl rfl rfl ?_
        refine FL.pur rfl rfl (p_neq rfl rfl (show _ = !true by simp [c0])) ?_
        refine FL.nilK ?_
        refine FC.cond_t rfl ?_
        refine FC.seq (FC.region ?_)
        refine mv_ rfl rfl rfl ?_
        refine mv_ rfl rfl rfl ?_
        refine FL.call rfl rfl (p_call Try.func50 rfl rfl rfl) (kp) ?_
        rintro e_ w_ ⟨rfl, hv2, f2⟩
        refine ⟨_, rfl, ?_⟩
        refine FL.nilK ?_
        refine FC.region ?_
        refine sg_ rfl rfl rfl ?_
        refine FL.nil ?_
        refine blk_normal (thn_normal ?_)
        refine FC.region ?_
        refine mv_ rfl rfl rfl ?_
        refine FL.pur rfl rfl (p_add rfl rfl ((wr (by omega) (by omega)).trans (show (i : Int) + 1 = ((i + 1 : Nat) : Int) by omega))) ?_
        refine sg_ rfl rfl rfl ?_
        refine FL.nil ?_
        exact ⟨(i + 1, pt vs x1, true), ⟨rfl, rfl, rfl, rfl, trivial⟩, ⟨hv2, hf.trans f2 fun k hk => .inr (by rw [hk, hb]; exact Nat.le_refl _), hFo.put hΦ hlc hd p1 p2 q, hlt, fun _ => (by
          show zeros (pt vs x1) < zeros vs0
          cases ch with
          | true => have := hz1 rfl; omega
          | false => rw [(hz2 rfl).1] at hzz ⊢; omega), fun h => (by cases h)⟩, by show Φ.length - (i + 1) < Φ.length - i; omega⟩
  rintro - w2 ⟨hf2, hno⟩
  refine FC.seq (FC.region ?_)
  refine sg_ rfl rfl rfl ?_
  refine FL.nilK ?_
  refine FC.ret ?_
  repeat with_reducible first | refine thn_ret ?_ | refine blk_ret ?_ | refine nog_ret ?_
  exact ret1 Try.results40 rfl ⟨⟨false, rfl, ⟨fun h => (by cases h), fun h => h.elim (fun h => absurd h hnt) fun h => absurd h hno⟩⟩, hf2⟩
end
end Go.Proofs.Ytcahhbcehnbdkaa.Sv

/- Walks of the reference: Check, Refutes. -/
namespace Go.Proofs.Ytcahhbcehnbdkaa.Sv
open Go.RowKit Go.Proofs.YtcahhbcehnbdkaaW.PrintWords Go.Proofs.YtcahhbcehnbdkaaW.PrintLast Go.Proofs.Ytcahhbcehnbdkaa.Eng
section
variable {w w' : World} {B : Nat} {cs ps : List (List Int)}
theorem getD_take_all {p : List Int → Prop} (h : ∀ j, j < cs.length → p (cs.getD j [])) : ∀ c ∈ cs, p c := fun c hc => by
  obtain ⟨q, hq, rfl⟩ := List.mem_iff_getElem.1 hc
  have := h q hq
  rwa [List.getD_eq_getElem?_getD, List.getElem?_eq_getElem hq] at this
set_option maxHeartbeats 2000000 in
theorem refcheck_calls {v : Value} (h1 : Rws w B v cs) (a : Int) (ha : -9223372036854775808 ≤ a ∧ a < 9223372036854775808) (hn : cs.length < 4611686018427387904) (hl : ∀ d ∈ cs, d.length < 4611686018427387904) :
    Calls Try.prog 13 #[.int .i64 a, v] w fun e w' => e = .returned (.int .i64 (checkV a cs)) ∧ w = w' := by
  obtain ⟨A1, cap1, rfl, hc1⟩ := h1
  refine calls_of_FC (N := 65) (vs := [.int .i64 a, .slice A1 cs.length cap1]) Try.func13 rfl Try.ntmps13 (Nat.le_of_ble_eq_true rfl) ?_
  refine FC.seq (FC.region ?_)
  refine sg_ rfl rfl rfl ?_
  refine FL.nilK ?_
  refine FC.seq ?_
  by_cases q1 : 5000 < a
  · refine FC.seq (FC.region ?_)
    refine mv_ rfl rfl rfl ?_
    refine FL.pur rfl rfl (p_gtr rfl rfl (decide_eq_true q1)) ?_
    refine mv_ rfl rfl rfl ?_
    refine FL.off rfl rfl ?_
    refine FL.off rfl rfl ?_
    refine FL.off rfl rfl ?_
    refine FL.pur rfl rfl (p_pick_t rfl rfl) ?_
    refine FL.nilK ?_
    refine FC.cond_t rfl ?_
    refine FC.seq (FC.region ?_)
    refine sg_ rfl rfl rfl ?_
    refine FL.nilK ?_
    refine FC.ret ?_
    repeat with_reducible first | refine thn_ret ?_ | refine blk_ret ?_ | refine nog_ret ?_
    exact ret1 Try.results13 rfl ⟨by unfold checkV; rw [if_pos (.inl q1)], rfl⟩
  by_cases q2 : 20000 < cs.length
  · refine FC.seq (FC.region ?_)
    refine mv_ rfl rfl rfl ?_
    refine FL.pur rfl rfl (p_gtr rfl rfl (decide_eq_false q1)) ?_
    refine mv_ rfl rfl rfl ?_
    refine mv_ rfl rfl rfl ?_
    refine FL.pur rfl rfl (p_len rfl Try.underlying22) ?_
    refine FL.pur rfl rfl (p_gtr rfl rfl (decide_eq_true (by omega))) ?_
    refine FL.pur rfl rfl (p_pick_f rfl rfl) ?_
    refine FL.nilK ?_
    refine FC.cond_t rfl ?_
    refine FC.seq (FC.region ?_)
    refine sg_ rfl rfl rfl ?_
    refine FL.nilK ?_
    refine FC.ret ?_
    repeat with_reducible first | refine thn_ret ?_ | refine blk_ret ?_ | refine nog_ret ?_
    exact ret1 Try.results13 rfl ⟨by unfold checkV; rw [if_pos (.inr (.inl q2))], rfl⟩
  refine FC.seq (FC.region ?_)
  refine mv_ rfl rfl rfl ?_
  refine FL.pur rfl rfl (p_gtr rfl rfl (decide_eq_false q1)) ?_
  refine mv_ rfl rfl rfl ?_
  refine mv_ rfl rfl rfl ?_
  refine FL.pur rfl rfl (p_len rfl Try.underlying22) ?_
  refine FL.pur rfl rfl (p_gtr rfl rfl (decide_eq_false (by omega))) ?_
  refine FL.pur rfl rfl (p_pick_f rfl rfl) ?_
  refine FL.nilK ?_
  refine FC.cond_f rfl (FC.skip (thn_normal ?_))
  refine FC.cut (σ := Unit) (fun _ => [(0, .int .i64 a), (1, .slice A1 cs.length cap1)]) (fun _ w2 => w = w2 ∧ cs.any longB = false) ?_ ?_
  · refine FC.seq (FC.region ?_)
    refine sg_ rfl rfl rfl ?_
    refine FL.nilK ?_
    refine FC.block ?_
    refine FC.loop (σ := Nat) (fun x => [(0, .int .i64 a), (1, .slice A1 cs.length cap1), (5, .int .i64 x)]) (fun x w2 => w = w2 ∧ x ≤ cs.length ∧ ∀ j, j < x → longB (cs.getD j []) = false) (fun x => cs.length - x) 0 ⟨rfl, Nat.zero_le _, fun j hj => absurd hj (Nat.not_lt_zero _)⟩ ⟨rfl, rfl, rfl, trivial⟩ ?_
    rintro i w2 ⟨rfl, hi, hno⟩
    refine FC.seq ?_
    refine FC.seq (FC.region ?_)
    refine mv_ rfl rfl rfl ?_
    refine mv_ rfl rfl rfl ?_
    refine FL.pur rfl rfl (p_len rfl Try.underlying22) ?_
    refine FL.pur rfl rfl (p_lss rfl rfl rfl) ?_
    refine FL.nilK ?_
    refine FC.cond (decide ((i : Int) < (cs.length : Int))) rfl (fun hcc => FC.skip (thn_normal ?_)) (fun hcc => FC.exit ?_)
    rotate_left
    · have hge : ¬ (i : Int) < (cs.length : Int) := of_decide_eq_false hcc
      exact thn_exit (thn_exit (blk_exit ⟨(), ⟨rfl, rfl, trivial⟩, rfl, by
        rw [List.any_eq_false]
        intro c hc
        have := getD_take_all (cs := cs) (p := fun c => longB c = false) (fun j hj => hno j (by omega)) c hc
        rw [this]; decide⟩))
    have hlt : i < cs.length := by have := of_decide_eq_true hcc; omega
    obtain ⟨ad, u, rfl, hadB, hcu, A2, cap2, rfl, hc2⟩ := hc1 i hlt
    have hcu : w.cell? (ad.add (i : Int).toNat) = _ := hcu
    refine FC.seq ?_
    refine FC.block ?_
    refine FC.seq (FC.region ?_)
    refine mv_ rfl rfl rfl ?_
    refine mv_ rfl rfl rfl ?_
    refine FL.pur rfl rfl (p_indexA rfl rfl Try.underlying22 inf41_eq inf41_size (by omega) (by omega)) ?_
    refine FL.val _ _ rfl rfl (p_load rfl Try.underlying41 rfl hcu) ?_
    refine FL.pur rfl rfl (p_len rfl Try.underlying41) ?_
    refine FL.pur rfl rfl (p_gtr rfl rfl rfl) ?_
    refine FL.nilK ?_
    refine FC.cond (decide (5000 < ((cs.getD i []).length : Int))) rfl (fun hcc => ?_) (fun hcc => FC.skip ?_)
    · have q3 := of_decide_eq_true hcc
      refine FC.seq (FC.region ?_)
      refine sg_ rfl rfl rfl ?_
      refine FL.nilK ?_
      refine FC.ret ?_
      repeat with_reducible first | refine thn_ret ?_ | refine blk_ret ?_ | refine nog_ret ?_
      exact ret1 Try.results13 rfl ⟨by
        unfold checkV
        rw [if_pos (.inr (.inr (List.any_eq_true.2 ⟨_, mem_getD (d := []) hlt, decide_eq_true (by omega)⟩)))], rfl⟩
    · have q3 := of_decide_eq_false hcc
      refine blk_normal (thn_normal ?_)
      refine FC.region ?_
      refine mv_ rfl rfl rfl ?_
      refine FL.pur rfl rfl (p_add rfl rfl ((wr (by omega) (by omega)).trans (show (i : Int) + 1 = ((i + 1 : Nat) : Int) by omega))) ?_
      refine sg_ rfl rfl rfl ?_
      refine FL.nil ?_
      exact ⟨i + 1, ⟨rfl, rfl, rfl, trivial⟩, ⟨rfl, hlt, fun j hj => by
        by_cases e : j = i
        · rw [e]; show decide (5000 < (cs.getD i []).length) = false; exact decide_eq_false fun h => q3 (by omega)
        · exact hno j (by omega)⟩, by show cs.length - (i + 1) < cs.length - i; omega⟩
  rintro - w2 ⟨rfl, hno⟩
  have hq : ¬ (5000 < a ∨ 20000 < cs.length ∨ cs.any longB = true) := by rw [hno]; simp; omega
  refine FC.seq ?_
  refine FC.seq (FC.region ?_)
  refine mv_ rfl rfl rfl ?_
  refine FL.pur rfl rfl (p_lss rfl rfl rfl) ?_
  refine FL.nilK ?_
  refine FC.cond (decide (a < 0)) rfl (fun hcc => ?_) (fun hcc => FC.skip (thn_normal ?_))
  · have q4 := of_decide_eq_true hcc
    refine FC.seq (FC.region ?_)
    refine sg_ rfl rfl rfl ?_
    refine FL.nilK ?_
    refine FC.ret ?_
    repeat with_reducible first | refine thn_ret ?_ | refine blk_ret ?_ | refine nog_ret ?_
    exact ret1 Try.results13 rfl ⟨by unfold checkV; rw [if_neg hq, if_pos (.inl q4)], rfl⟩
  have q4 := of_decide_eq_false hcc
  clear hcc
  have kn : ∀ l, knownB a l = false → decide (l = 0) = true ∨ decide (l = 0) = false ∧ (a < l ∨ ¬ a < l ∧ l < -a) := fun l h => by
    simp only [knownB, Bool.not_eq_false', Bool.or_eq_true, decide_eq_true_eq] at h
    by_cases e : l = 0
    · exact .inl (decide_eq_true e)
    · exact .inr ⟨decide_eq_false e, by omega⟩
  refine FC.cut (σ := Unit) (fun _ => []) (fun _ w2 => w = w2 ∧ (cs.all fun c => c.all (knownB a)) = true) ?_ ?_
  · refine FC.seq (FC.region ?_)
    refine sg_ rfl rfl rfl ?_
    refine FL.nilK ?_
    refine FC.block ?_
    refine FC.loop (σ := Nat) (fun x => [(0, .int .i64 a), (1, .slice A1 cs.length cap1), (6, .int .i64 x)]) (fun x w2 => w = w2 ∧ x ≤ cs.length ∧ ∀ j, j < x → (cs.getD j []).all (knownB a) = true) (fun x => cs.length - x) 0 ⟨rfl, Nat.zero_le _, fun j hj => absurd hj (Nat.not_lt_zero _)⟩ ⟨rfl, rfl, rfl, trivial⟩ ?_
    rintro i w2 ⟨rfl, hi, hk⟩
    refine FC.seq ?_
    refine FC.seq (FC.region ?_)
    refine mv_ rfl rfl rfl ?_
    refine mv_ rfl rfl rfl ?_
    refine FL.pur rfl rfl (p_len rfl Try.underlying22) ?_
    refine FL.pur rfl rfl (p_lss rfl rfl rfl) ?_
    refine FL.nilK ?_
    refine FC.cond (decide ((i : Int) < (cs.length : Int))) rfl (fun hcc => FC.skip (thn_normal ?_)) (fun hcc => FC.exit ?_)
    rotate_left
    · have hge : ¬ (i : Int) < (cs.length : Int) := of_decide_eq_false hcc
      exact thn_exit (thn_exit (blk_exit ⟨(), trivial, rfl, List.all_eq_true.2 (getD_take_all (p := fun c => c.all (knownB a) = true) fun j hj => hk j (by omega))⟩))
    have hlt : i < cs.length := by have := of_decide_eq_true hcc; omega
    obtain ⟨ad, u, rfl, hadB, hcu, A2, cap2, rfl, hc2⟩ := hc1 i hlt
    have hcu : w.cell? (ad.add (i : Int).toNat) = _ := hcu
    have hdl := hl _ (mem_getD (d := []) hlt)
    obtain ⟨d, hd⟩ : ∃ d, d = cs.getD i [] := ⟨_, rfl⟩
    rw [← hd] at hcu hc2 hdl
    refine FC.seq ?_
    refine FC.block ?_
    refine FC.seq (FC.region ?_)
    refine sg_ rfl rfl rfl ?_
    refine FL.nilK ?_
    refine FC.block ?_
    refine FC.loop (σ := Nat) (fun x => [(0, .int .i64 a), (1, .slice (some ad) cs.length cap1), (6, .int .i64 i), (7, .int .i64 x)]) (fun x w2 => w = w2 ∧ x ≤ d.length ∧ ∀ j, j < x → knownB a (g d j) = true) (fun x => d.length - x) 0 ⟨rfl, Nat.zero_le _, fun j hj => absurd hj (Nat.not_lt_zero _)⟩ ⟨rfl, rfl, rfl, rfl, trivial⟩ ?_
    rintro j w2 ⟨rfl, hj, hkj⟩
    refine FC.seq ?_
    refine FC.seq (FC.region ?_)
    refine mv_ rfl rfl rfl ?_
    refine mv_ rfl rfl rfl ?_
    refine mv_ rfl rfl rfl ?_
    refine FL.pur rfl rfl (p_indexA rfl rfl Try.underlying22 inf41_eq inf41_size (by omega) (by omega)) ?_
    refine FL.val _ _ rfl rfl (p_load rfl Try.underlying41 rfl hcu) ?_
    refine FL.pur rfl rfl (p_len rfl Try.underlying41) ?_
    refine FL.pur rfl rfl (p_lss rfl rfl rfl) ?_
    refine FL.nilK ?_
    refine FC.cond (decide ((j : Int) < (d.length : Int))) rfl (fun hcc => FC.skip (thn_normal ?_)) (fun hcc => FC.exit ?_)
    rotate_left
    · have hge : ¬ (j : Int) < (d.length : Int) := of_decide_eq_false hcc
      refine thn_exit (thn_exit (blk_exit (blk_normal (thn_normal ?_))))
      refine FC.region ?_
      refine mv_ rfl rfl rfl ?_
      refine FL.pur rfl rfl (p_add rfl rfl ((wr (by omega) (by omega)).trans (show (i : Int) + 1 = ((i + 1 : Nat) : Int) by omega))) ?_
      refine sg_ rfl rfl rfl ?_
      refine FL.nil ?_
      exact ⟨i + 1, ⟨rfl, rfl, rfl, trivial⟩, ⟨rfl, hlt, fun q hq' => by
        by_cases e : q = i
        · rw [e, ← hd]
          refine List.all_eq_true.2 fun l hlm => ?_
          obtain ⟨p, hp, rfl⟩ := List.mem_iff_getElem.1 hlm
          have := hkj p (by omega)
          rwa [g, List.getD_eq_getElem?_getD, List.getElem?_eq_getElem hp] at this
        · exact hk q (by omega)⟩, by show cs.length - (i + 1) < cs.length - i; omega⟩
    have hjt : j < d.length := by have := of_decide_eq_true hcc; omega
    obtain ⟨ad2, rfl, hadB2, hcl⟩ := hc2 j hjt
    have hcl : w.cell? (ad2.add (j : Int).toNat) = some (.int .i64 (g d j)) := hcl
    refine FC.seq ?_
    refine FC.block ?_
    refine FC.seq (FC.region ?_)
    refine mv_ rfl rfl rfl ?_
    refine mv_ rfl rfl rfl ?_
    refine FL.pur rfl rfl (p_indexA rfl rfl Try.underlying22 inf41_eq inf41_size (by omega) (by omega)) ?_
    refine FL.val _ _ rfl rfl (p_load rfl Try.underlying41 rfl hcu) ?_
    refine mv_ rfl rfl rfl ?_
    refine FL.pur rfl rfl (p_indexA rfl rfl Try.underlying41 inf3_eq inf3_size (by omega) (by omega)) ?_
    refine FL.val _ _ rfl rfl (p_load rfl Try.underlying3 rfl hcl) ?_
    refine sg_ rfl rfl rfl ?_
    refine FL.nilK ?_
    have bad : knownB a (g d j) = false → (cs.all fun c => c.all (knownB a)) = false := fun h => by
      rw [Bool.eq_false_iff]
      intro hall
      have := List.all_eq_true.1 (List.all_eq_true.1 hall _ (mem_getD (d := []) hlt)) (g d j) (by rw [← hd]; exact rd_mem d j (by omega) (by omega))
      rw [h] at this; cases this
    cases hkn : knownB a (g d j) with
    | false =>
      have hbad := bad hkn
      have fin : checkV a cs = 8 := by unfold checkV; rw [if_neg hq, if_pos (.inr hbad)]
      rcases kn _ hkn with k0 | ⟨k0, k1 | ⟨k1, k2⟩⟩
      · refine FC.seq (FC.region ?_)
        refine mv_ rfl rfl rfl ?_
        refine FL.pur rfl rfl (p_eql rfl rfl k0) ?_
        refine mv_ rfl rfl rfl ?_
        refine FL.off rfl rfl ?_
        refine FL.off rfl rfl ?_
        refine FL.off rfl rfl ?_
        refine FL.pur rfl rfl (p_pick_t rfl rfl) ?_
        refine mv_ rfl rfl rfl ?_
        refine FL.off rfl rfl ?_
        refine FL.off rfl rfl ?_
        refine FL.off rfl rfl ?_
        refine FL.off rfl rfl ?_
        refine FL.pur rfl rfl (p_pick_t rfl rfl) ?_
        refine FL.nilK ?_
        refine FC.cond_t rfl ?_
        refine FC.seq (FC.region ?_)
        refine sg_ rfl rfl rfl ?_
        refine FL.nilK ?_
        refine FC.ret ?_
        repeat with_reducible first | refine thn_ret ?_ | refine blk_ret ?_ | refine nog_ret ?_
        exact ret1 Try.results13 rfl ⟨by rw [fin], rfl⟩
      · refine FC.seq (FC.region ?_)
        refine mv_ rfl rfl rfl ?_
        refine FL.pur rfl rfl (p_eql rfl rfl k0) ?_
        refine mv_ rfl rfl rfl ?_
        refine mv_ rfl rfl rfl ?_
        refine mv_ rfl rfl rfl ?_
        refine FL.pur rfl rfl (p_gtr rfl rfl (decide_eq_true k1)) ?_
        refine FL.pur rfl rfl (p_pick_f rfl rfl) ?_
        refine mv_ rfl rfl rfl ?_
        refine FL.off rfl rfl ?_
        refine FL.off rfl rfl ?_
        refine FL.off rfl rfl ?_
        refine FL.off rfl rfl ?_
        refine FL.pur rfl rfl (p_pick_t rfl rfl) ?_
        refine FL.nilK ?_
        refine FC.cond_t rfl ?_
        refine FC.seq (FC.region ?_)
        refine sg_ rfl rfl rfl ?_
        refine FL.nilK ?_
        refine FC.ret ?_
        repeat with_reducible first | refine thn_ret ?_ | refine blk_ret ?_ | refine nog_ret ?_
        exact ret1 Try.results13 rfl ⟨by rw [fin], rfl⟩
      · refine FC.seq (FC.region ?_)
        refine mv_ rfl rfl rfl ?_
        refine FL.pur rfl rfl (p_eql rfl rfl k0) ?_
        refine mv_ rfl rfl rfl ?_
        refine mv_ rfl rfl rfl ?_
        refine mv_ rfl rfl rfl ?_
        refine FL.pur rfl rfl (p_gtr rfl rfl (decide_eq_false k1)) ?_
        refine FL.pur rfl rfl (p_pick_f rfl rfl) ?_
        refine mv_ rfl rfl rfl ?_
        refine mv_ rfl rfl rfl ?_
        refine mv_ rfl rfl rfl ?_
        refine FL.pur rfl rfl (p_neg rfl (wr (by omega) (by omega))) ?_
        refine FL.pur rfl rfl (p_lss rfl rfl (decide_eq_true k2)) ?_
        refine FL.pur rfl rfl (p_pick_f rfl rfl) ?_
        refine FL.nilK ?_
        refine FC.cond_t rfl ?_
        refine FC.seq (FC.region ?_)
        refine sg_ rfl rfl rfl ?_
        refine FL.nilK ?_
        refine FC.ret ?_
        repeat with_reducible first | refine thn_ret ?_ | refine blk_ret ?_ | refine nog_ret ?_
        exact ret1 Try.results13 rfl ⟨by rw [fin], rfl⟩
    | true =>
      have h3 := hkn
      simp only [knownB, Bool.not_eq_true', Bool.or_eq_false_iff, decide_eq_false_iff_not] at h3
      refine FC.seq (FC.region ?_)
      refine mv_ rfl rfl rfl ?_
      refine FL.pur rfl rfl (p_eql rfl rfl (decide_eq_false h3.1.1)) ?_
      refine mv_ rfl rfl rfl ?_
      refine mv_ rfl rfl rfl ?_
      refine mv_ rfl rfl rfl ?_
      refine FL.pur rfl rfl (p_gtr rfl rfl (decide_eq_false (by omega))) ?_
      refine FL.pur rfl rfl (p_pick_f rfl rfl) ?_
      refine mv_ rfl rfl rfl ?_
      refine mv_ rfl rfl rfl ?_
      refine mv_ rfl rfl rfl ?_
      refine FL.pur rfl rfl (p_neg rfl (wr (by omega) (by omega))) ?_
      refine FL.pur rfl rfl (p_lss rfl rfl (decide_eq_false (by omega))) ?_
      refine FL.pur rfl rfl (p_pick_f rfl rfl) ?_
      refine FL.nilK ?_
      refine FC.cond_f rfl (FC.skip ?_)
      refine blk_normal (thn_normal ?_)
      refine FC.region ?_
      refine mv_ rfl rfl rfl ?_
      refine FL.pur rfl rfl (p_add rfl rfl ((wr (by omega) (by omega)).trans (show (j : Int) + 1 = ((j + 1 : Nat) : Int) by omega))) ?_
      refine sg_ rfl rfl rfl ?_
      refine FL.nil ?_
      exact ⟨j + 1, ⟨rfl, rfl, rfl, rfl, trivial⟩, ⟨rfl, hjt, fun q hq' => by
        by_cases e : q = j
        · rw [e]; exact hkn
        · exact hkj q (by omega)⟩, by show d.length - (j + 1) < d.length - j; omega⟩
  rintro - w2 ⟨rfl, hall⟩
  refine FC.seq (FC.region ?_)
  refine sg_ rfl rfl rfl ?_
  refine FL.nilK ?_
  refine FC.ret ?_
  repeat with_reducible first | refine thn_ret ?_ | refine blk_ret ?_ | refine nog_ret ?_
  exact ret1 Try.results13 rfl ⟨by unfold checkV; rw [if_neg hq, if_neg (by rw [hall]; simp; omega)], rfl⟩
end
end Go.Proofs.Ytcahhbcehnbdkaa.Sv

/- Rows of rows that a call has made itself; appended to. -/
namespace Go.Proofs.Ytcahhbcehnbdkaa.Sv
open Go.RowKit Go.Proofs.YtcahhbcehnbdkaaW.PrintWords Go.Proofs.YtcahhbcehnbdkaaW.PrintLast Go.Proofs.Ytcahhbcehnbdkaa.Eng

/-- A row that is only read, whose block is of P. -/
def RowP (w : World) (P : Nat → Prop) (v : Value) (d : List Int) : Prop :=
  ∃ A cap, v = .slice A d.length cap ∧ ∀ i, i < d.length → ∃ ad, A = some ad ∧ P ad.block ∧ w.cell? (ad.add i) = some (.int .i64 (g d i))
/-- Rows of rows that are only read, whose blocks are of P. -/
def RwsP (w : World) (P : Nat → Prop) (v : Value) (cs : List (List Int)) : Prop :=
  ∃ A cap, v = .slice A cs.length cap ∧ ∀ i, i < cs.length → ∃ ad u, A = some ad ∧ P ad.block ∧ w.cell? (ad.add i) = some u ∧ RowP w P u (cs.getD i [])
/-- A row of rows of the call's own; the rows inside lie in other blocks, of P. -/
structure AllRow (w : World) (B0 : Nat) (P : Nat → Prop) (v : Value) (cs : List (List Int)) : Prop where
  out : ∃ us, w.ownsRow B0 41 1 v cs.length us ∧ ∀ i, i < cs.length → ∃ u, us[i]? = some u ∧ RowP w (fun k => P k ∧ ¬ v.ownBlock = some k) u (cs.getD i [])
section
variable {w w' : World} {B B0 : Nat} {P Q : Nat → Prop} {v u : Value} {cs ps : List (List Int)} {c : List Int}
theorem RowP.mono (h : RowP w P v c) (hp : ∀ k, P k → k < w.heap.size → Q k) : RowP w Q v c := by
  obtain ⟨A, cap, rfl, h1⟩ := h
  refine ⟨A, cap, rfl, fun i hi => ?_⟩
  obtain ⟨ad, e1, e2, e3⟩ := h1 i hi
  have hb := World.block_lt_of_cell? w _ e3
  rw [add_block] at hb
  exact ⟨ad, e1, hp _ e2 hb, e3⟩
theorem RowP.fr {F : Nat → Prop} (h : RowP w P v c) (hf : Fr F w w') (hp : ∀ k, P k → ¬ F k) : RowP w' P v c := by
  obtain ⟨A, cap, rfl, h1⟩ := h
  refine ⟨A, cap, rfl, fun i hi => ?_⟩
  obtain ⟨ad, e1, e2, e3⟩ := h1 i hi
  exact ⟨ad, e1, e2, hf.cell e3 (by rw [add_block]; exact hp _ e2)⟩
theorem RowP.row (h : RowP w P v c) : Row w w.heap.size v c := h.mono fun _ _ hk => hk
theorem RwsP.mono (h : RwsP w P v cs) (hp : ∀ k, P k → k < w.heap.size → Q k) : RwsP w Q v cs := by
  obtain ⟨A, cap, rfl, h1⟩ := h
  refine ⟨A, cap, rfl, fun i hi => ?_⟩
  obtain ⟨ad, u, e1, e2, e3, e4⟩ := h1 i hi
  have hb := World.block_lt_of_cell? w _ e3
  rw [add_block] at hb
  exact ⟨ad, u, e1, hp _ e2 hb, e3, e4.mono hp⟩
theorem RwsP.fr {F : Nat → Prop} (h : RwsP w P v cs) (hf : Fr F w w') (hp : ∀ k, P k → ¬ F k) : RwsP w' P v cs := by
  obtain ⟨A, cap, rfl, h1⟩ := h
  refine ⟨A, cap, rfl, fun i hi => ?_⟩
  obtain ⟨ad, u, e1, e2, e3, e4⟩ := h1 i hi
  exact ⟨ad, u, e1, e2, hf.cell e3 (by rw [add_block]; exact hp _ e2), e4.fr hf hp⟩
theorem RwsP.rws (h : RwsP w P v cs) : Rws w w.heap.size v cs := h.mono fun _ _ hk => hk
theorem Rws.p (h : Rws w B v cs) : RwsP w (· < B) v cs := h
theorem RwsP.at (h : RwsP w P v cs) (i : Nat) (hi : i < cs.length) : ∃ A cap ad u, v = .slice A cs.length cap ∧ A = some ad ∧ P ad.block ∧ w.cell? (ad.add i) = some u ∧ RowP w P u (cs.getD i []) := by
  obtain ⟨A, cap, e, h1⟩ := h
  obtain ⟨ad, u, e1, e2, e3, e4⟩ := h1 i hi
  exact ⟨A, cap, ad, u, e, e1, e2, e3, e4⟩
theorem AllRow.nil (hn : v = .slice none 0 0) : AllRow w B0 P v [] := ⟨[], by subst hn; exact ⟨rfl, .inl ⟨rfl, rfl⟩⟩, fun i hi => absurd hi (Nat.not_lt_zero _)⟩
theorem own_built (w : World) (B : Nat) (e : TypeId) (hB : B ≤ w.heap.size) : (w.alloc (.cells #[] e)).ownsRow B e 1 (.slice (some ⟨w.heap.size, 0, none⟩) 0 0) 0 [] :=
  ⟨by simp, .inr ⟨w.heap.size, 0, #[], rfl, hB, heap_alloc_new w _, Nat.le_refl _, Nat.zero_le _, by simp, by simp⟩⟩
theorem AllRow.fr {F : Nat → Prop} (h : AllRow w B0 P v cs) (hf : Fr F w w') (hv : ∀ k, v.ownBlock = some k → ¬ F k) (hp : ∀ k, P k → ¬ F k) : AllRow w' B0 P v cs := by
  obtain ⟨us, h1, h2⟩ := h.out
  refine ⟨us, ownsRow_same h1 fun k hk => hf.block k (h1.lt k hk).2 (hv k hk), fun i hi => ?_⟩
  obtain ⟨u, e1, e2⟩ := h2 i hi
  exact ⟨u, e1, e2.fr hf fun k hk => hp k hk.1⟩
theorem AllRow.rws (h : AllRow w B0 P v cs) : RwsP w (fun k => P k ∨ v.ownBlock = some k) v cs := by
  obtain ⟨us, h1, h2⟩ := h.out
  have h1' := h1
  rcases h1.2 with ⟨e, hn⟩ | ⟨q, cap, cur, e, hb, hh, hc, hm, hs, ht⟩
  · exact ⟨none, 0, by rw [e, hn], fun i hi => by omega⟩
  · refine ⟨some ⟨q, 0, none⟩, cap, e, fun i hi => ?_⟩
    obtain ⟨u, e1, e2⟩ := h2 i hi
    have := h1'.cells (g := q) (by rw [e]; rfl) i u e1
    exact ⟨_, u, rfl, .inr (by rw [e]; rfl), this, e2.mono fun k hk _ => .inl hk.1⟩
theorem one_append (w : World) (x : Value) (t : TypeId) : ∀ j y, [x][j]? = some y → (w.alloc (.cells #[x] t)).cell? ((⟨w.heap.size, 0, none⟩ : Addr).add j) = some y := news1 w x t
section
variable {ρ : Env} {dst : Option Tmp} {tp : TypeId} {pos : String} {af : Array Edge} {gd : Option (Nat × Bool)} {x y : Operand}
theorem getD_snoc {α : Type} (l : List α) (a d : α) (i : Nat) : (l ++ [a]).getD i d = if i < l.length then l.getD i d else if i = l.length then a else d := by
  simp only [List.getD_eq_getElem?_getD]
  by_cases h : i < l.length
  · rw [List.getElem?_append_left h, if_pos h]
  · rw [if_neg h, List.getElem?_append_right (by omega)]
    by_cases e : i = l.length
    · subst e; simp
    · rw [if_neg e, List.getElem?_eq_none (by simp; omega)]; rfl
/-- One row more. -/
theorem AllRow.app (h : AllRow w B0 P v cs) (hB : B0 ≤ w.heap.size) (hlen : cs.length < 1099511627776) (hu : RowP w (fun k => P k ∧ ¬ v.ownBlock = some k) u c) (hx : ev ρ x = some v) (hy : ev ρ y = some (.slice (some ⟨w.heap.size, 0, none⟩) 1 1)) :
    ∃ v1 w1, Val Try.prog ρ ⟨dst, .call { callee := .builtin .append, args := #[x, y], argTypes := #[22, 22] }, tp, pos, af, gd⟩ (w.alloc (.cells #[u] 41)) v1 w1 ∧ AllRow w1 B0 P v1 (cs ++ [c]) ∧ Fr (fun k => v.ownBlock = some k) w w1 ∧ (v1.ownBlock = v.ownBlock ∨ ∃ b, v1.ownBlock = some b ∧ w.heap.size ≤ b) := by
  obtain ⟨us, h1, h2⟩ := h.out
  have hul : us.length = cs.length := by have := h1.1; omega
  have hu1 : u.oneCell' = true := by obtain ⟨A, cap, rfl, _⟩ := hu; rfl
  obtain ⟨v1, w1, a1, a2, a3, a4⟩ := app22 (ρ := ρ) (dst := dst) (ty := tp) (pos := pos) (af := af) (g := gd) hx hy (h1.alloc (.cells #[u] 41)) (news := [u]) rfl (one_append w u 41) (by simpa using hu1) (by omega) (by simp; omega)
  have f1 : Fr (fun k => v.ownBlock = some k) w w1 := ((Fr.refl _ w).alloc _).grown a3 fun k hk => .inl hk
  have a4' : v1.ownBlock = v.ownBlock ∨ ∃ b, v1.ownBlock = some b ∧ w.heap.size ≤ b := by
    rcases a4 with h | ⟨b, h, hb⟩
    · exact .inl h
    · exact .inr ⟨b, h, by simp at hb; omega⟩
  have hne : ∀ k, k < w.heap.size → ¬ v.ownBlock = some k → ¬ v1.ownBlock = some k := fun k hk hv e => by
    rcases a4' with h | ⟨b, h, hb⟩
    · exact hv (h.symm.trans e)
    · rw [h] at e; injection e with e; omega
  have mv : ∀ {u c}, RowP w (fun k => P k ∧ ¬ v.ownBlock = some k) u c → RowP w1 (fun k => P k ∧ ¬ v1.ownBlock = some k) u c := fun hr =>
    (hr.mono (Q := fun k => (P k ∧ ¬ v1.ownBlock = some k) ∧ ¬ v.ownBlock = some k) fun k hk hl => ⟨⟨hk.1, hne k hl hk.2⟩, hk.2⟩).fr f1 (fun k hk => hk.2) |>.mono fun k hk _ => hk.1
  refine ⟨v1, w1, a1, ⟨us ++ [u], by simpa using a2, fun i hi => ?_⟩, f1, a4'⟩
  rw [getD_snoc]
  by_cases e : i < cs.length
  · obtain ⟨z, e1, e2⟩ := h2 i e
    rw [if_pos e]
    exact ⟨z, by rw [List.getElem?_append_left (by omega)]; exact e1, mv e2⟩
  · have : i = cs.length := by simp at hi; omega
    subst this
    rw [if_neg (by omega), if_pos rfl]
    exact ⟨u, by rw [← hul]; simp, mv hu⟩
theorem appNil22 {n cap c : Nat} {A A' : Option Addr} (hx : ev ρ x = some (.slice A n cap)) (hy : ev ρ y = some (.slice A' 0 c)) (hn : n ≤ cap) :
    Val Try.prog ρ ⟨dst, .call { callee := .builtin .append, args := #[x, y], argTypes := #[22, 22] }, tp, pos, af, gd⟩ w (.slice A n cap) w := p_appendNil hx hy Try.underlying22 inf41_eq hn
/-- A copy of the outer row. -/
theorem AllRow.copy (h : RwsP w P u cs) (hP : ∀ k, P k → k < w.heap.size) (hB : B0 ≤ w.heap.size) (hlen : cs.length < 1099511627776) (hx : ev ρ x = some (.slice (some ⟨w.heap.size, 0, none⟩) 0 0)) (hy : ev ρ y = some u) :
    ∃ v1 w1, Val Try.prog ρ ⟨dst, .call { callee := .builtin .append, args := #[x, y], argTypes := #[22, 22] }, tp, pos, af, gd⟩ (w.alloc (.cells #[] 41)) v1 w1 ∧ AllRow w1 B0 P v1 cs ∧ Fr (fun _ => False) w w1 := by
  have hal : Fr (fun _ => False) w (w.alloc (.cells #[] 41)) := (Fr.refl _ w).alloc _
  by_cases hn : cs.length = 0
  · obtain ⟨A, cap, rfl, _⟩ := h
    rw [hn] at hy
    have e : cs = [] := List.length_eq_zero_iff.1 hn
    subst e
    exact ⟨_, _, appNil22 hx hy (Nat.le_refl _), ⟨[], own_built w B0 41 hB, fun i hi => absurd hi (Nat.not_lt_zero _)⟩, hal⟩
  · obtain ⟨A, cap, rfl, h1⟩ := h
    obtain ⟨ad, _, rfl, _⟩ := h1 0 (by omega)
    have hex : ∀ i, i < cs.length → ∃ z, w.cell? (ad.add i) = some z ∧ RowP w P z (cs.getD i []) := fun i hi => by
      obtain ⟨ad', z, e1, _, e3, e4⟩ := h1 i hi
      injection e1 with e1
      subst e1
      exact ⟨z, e3, e4⟩
    have hnews : ∀ j y, ((List.range cs.length).map fun i => (w.cell? (ad.add i)).getD undef)[j]? = some y → (w.alloc (.cells #[] 41)).cell? (ad.add j) = some y := fun j y hj => by
      have hjl : j < cs.length := by have := (List.getElem?_eq_some_iff.1 hj).1; simpa using this
      obtain ⟨z, e1, _⟩ := hex j hjl
      rw [List.getElem?_map, List.getElem?_range hjl] at hj
      simp only [Option.map_some, Option.some.injEq, e1, Option.getD_some] at hj
      rw [← hj]
      exact cell_alloc e1 _
    obtain ⟨v1, w1, a1, a2, a3, a4⟩ := app22 (ρ := ρ) (dst := dst) (ty := tp) (pos := pos) (af := af) (g := gd) hx hy (own_built w B0 41 hB) (news := (List.range cs.length).map fun i => (w.cell? (ad.add i)).getD undef) (by simp) hnews (fun z hz => by
      obtain ⟨i, hi, rfl⟩ := List.mem_map.1 hz
      obtain ⟨z, e1, A, cap, rfl, _⟩ := hex i (List.mem_range.1 hi)
      rw [e1]; rfl) (by omega) (by simp; omega)
    have f1 : Fr (fun _ => False) w w1 := hal.grown a3 fun k hk => .inr (by
      have : w.heap.size = k := by simpa [Value.ownBlock] using hk
      omega)
    rw [Nat.zero_add, List.nil_append] at a2
    refine ⟨v1, w1, a1, ⟨_, a2, fun i hi => ?_⟩, f1⟩
    obtain ⟨z, e1, e2⟩ := hex i hi
    refine ⟨z, ?_, (e2.fr f1 fun _ _ h => h).mono fun k hk hl => ⟨hk, fun e => ?_⟩⟩
    · rw [List.getElem?_map, List.getElem?_range hi]
      simp [e1]
    · have h5 : w.heap.size ≤ k := by
        rcases a4 with h | ⟨b, h, hb⟩
        · rw [h] at e
          have : w.heap.size = k := by simpa [Value.ownBlock] using e
          omega
        · rw [h] at e; injection e with e; simp at hb; omega
      have := hP k hk
      omega
/-- A copy of a row of numbers. -/
theorem copy_row (h : RowP w P u c) (hlen : c.length < 1099511627776) (hx : ev ρ x = some (.slice (some ⟨w.heap.size, 0, none⟩) 0 0)) (hy : ev ρ y = some u) :
    ∃ v1 w1, Val Try.prog ρ ⟨dst, .call { callee := .builtin .append, args := #[x, y], argTypes := #[41, 41] }, tp, pos, af, gd⟩ (w.alloc (.cells #[] 3)) v1 w1 ∧ w1.ownsRow w.heap.size 3 1 v1 c.length (nums .i64 c) ∧ Fr (fun _ => False) w w1 := by
  have hal : Fr (fun _ => False) w (w.alloc (.cells #[] 3)) := (Fr.refl _ w).alloc _
  by_cases hn : c.length = 0
  · obtain ⟨A, cap, rfl, _⟩ := h
    rw [hn] at hy
    have e : c = [] := List.length_eq_zero_iff.1 hn
    subst e
    exact ⟨_, _, appNil41 hx hy (Nat.le_refl _), own_built w _ 3 (Nat.le_refl _), hal⟩
  · obtain ⟨A, cap, rfl, h1⟩ := h
    obtain ⟨ad, rfl, _, _⟩ := h1 0 (by omega)
    have hnews : ∀ j y, (nums .i64 c)[j]? = some y → (w.alloc (.cells #[] 3)).cell? (ad.add j) = some y := fun j y hj => by
      have hjl : j < c.length := by have := (List.getElem?_eq_some_iff.1 hj).1; simpa [nums] using this
      obtain ⟨ad', e1, _, e3⟩ := h1 j hjl
      injection e1 with e1
      subst e1
      have : y = .int .i64 (g c j) := by
        simp only [nums, List.getElem?_map, List.getElem?_eq_getElem hjl, Option.map_some, Option.some.injEq] at hj
        rw [← hj, g, List.getD_eq_getElem?_getD, List.getElem?_eq_getElem hjl]
        rfl
      rw [this]
      exact cell_alloc e3 _
    obtain ⟨v1, w1, a1, a2, a3, a4⟩ := app41 (ρ := ρ) (dst := dst) (ty := tp) (pos := pos) (af := af) (g := gd) hx hy (own_built w w.heap.size 3 (Nat.le_refl _)) (news := nums .i64 c) (by simp [nums]) hnews (fun z hz => by
      obtain ⟨i, hi, rfl⟩ := List.mem_map.1 hz
      rfl) (by omega) (by simp)
    rw [Nat.zero_add, List.nil_append] at a2
    exact ⟨v1, w1, a1, a2, hal.grown a3 fun k hk => .inr (by
      have : w.heap.size = k := by simpa [Value.ownBlock] using hk
      omega)⟩
theorem rowP_own (h : w.ownsRow B0 3 1 v c.length (nums .i64 c)) : RowP w (fun k => B0 ≤ k ∧ v.ownBlock = some k) v c := by
  have h' := h
  rcases h.2 with ⟨e, hn⟩ | ⟨q, cap, cur, e, hb, hh, hc, hm, hs, ht⟩
  · exact ⟨none, 0, by rw [e, hn], fun i hi => by omega⟩
  · refine ⟨some ⟨q, 0, none⟩, cap, e, fun i hi => ⟨_, rfl, ⟨hb, by rw [e]; rfl⟩, ?_⟩⟩
    exact h'.cells (g := q) (by rw [e]; rfl) i _ (by simp [nums, g, List.getElem?_eq_getElem hi])
end
end
end Go.Proofs.Ytcahhbcehnbdkaa.Sv

/- Walks of the reference: Refutes, Many, Twin. -/
namespace Go.Proofs.Ytcahhbcehnbdkaa.Sv
open Go.RowKit Go.Proofs.YtcahhbcehnbdkaaW.PrintWords Go.Proofs.YtcahhbcehnbdkaaW.PrintLast Go.Proofs.Ytcahhbcehnbdkaa.Eng
section
variable {w w' : World} {P Q : Nat → Prop} {cs ps : List (List Int)}
theorem take_snoc (ps : List (List Int)) (i : Nat) (h : i < ps.length) : ps.take (i + 1) = ps.take i ++ [ps.getD i []] := by
  rw [List.take_add_one, List.getElem?_eq_getElem h]
  simp [List.getElem?_eq_getElem h]
set_option maxHeartbeats 2000000 in
theorem refrefutes_calls {v1 v2 : Value} (a : Int) (ha : -9223372036854775808 ≤ a ∧ a < 9223372036854775808) (h1 : RwsP w P v1 cs) (h2 : RwsP w P v2 ps) (hP : ∀ k, P k → k < w.heap.size) (hl1 : cs.length < 4611686018427387904) (hll1 : ∀ c ∈ cs, c.length < 4611686018427387904) (hl2 : ps.length < 4611686018427387904) (hll2 : ∀ c ∈ ps, c.length < 4611686018427387904) :
    Calls Try.prog 17 #[.int .i64 a, v1, v2] w fun e w' => (∃ b : Bool, e = .returned (.bool b) ∧ (b = true ↔ RefSpec a cs ps)) ∧ Fr (fun _ => False) w w' := by
  have h1' := h1
  have h2' := h2
  obtain ⟨A1, cap1, rfl, hc1⟩ := h1
  obtain ⟨A2, cap2, rfl, hc2⟩ := h2
  have k1 := refcheck_calls (w := w) h1'.rws a ha hl1 hll1
  have k2 := refcheck_calls (w := w) h2'.rws a ha hl2 hll2
  refine calls_of_FC (N := 63) (vs := [.int .i64 a, .slice A1 cs.length cap1, .slice A2 ps.length cap2]) Try.func17 rfl Try.ntmps17 (Nat.le_of_ble_eq_true rfl) ?_
  refine FC.seq (FC.region ?_)
  refine sg_ rfl rfl rfl ?_
  refine FL.nilK ?_
  refine FC.seq ?_
  by_cases c1 : checkV a cs = 0
  rotate_left
  · refine FC.seq (FC.region ?_)
    refine mv_ rfl rfl rfl ?_
    refine mv_ rfl rfl rfl ?_
    refine FL.call rfl rfl (p_call Try.func13 rfl rfl rfl) (k1) ?_
    rintro e_ w_ ⟨rfl, rfl⟩
    refine ⟨_, rfl, ?_⟩
    refine FL.pur rfl rfl (p_neq rfl rfl (show _ = !true by simp [c1])) ?_
    refine mv_ rfl rfl rfl ?_
    refine FL.off rfl rfl ?_
    refine FL.off rfl rfl ?_
    refine FL.off rfl rfl ?_
    refine FL.pur rfl rfl (p_pick_t rfl rfl) ?_
    refine mv_ rfl rfl rfl ?_
    refine FL.off rfl rfl ?_
    refine FL.off rfl rfl ?_
    refine FL.off rfl rfl ?_
    refine FL.off rfl rfl ?_
    refine FL.pur rfl rfl (p_pick_t rfl rfl) ?_
    refine mv_ rfl rfl rfl ?_
    refine FL.off rfl rfl ?_
    refine FL.off rfl rfl ?_
    refine FL.off rfl rfl ?_
    refine FL.pur rfl rfl (p_pick_t rfl rfl) ?_
    refine mv_ rfl rfl rfl ?_
    refine FL.off rfl rfl ?_
    refine FL.off rfl rfl ?_
    refine FL.off rfl rfl ?_
    refine FL.off rfl rfl ?_
    refine FL.off rfl rfl ?_
    refine FL.off rfl rfl ?_
    refine FL.off rfl rfl ?_
    refine FL.off rfl rfl ?_
    refine FL.pur rfl rfl (p_pick_t rfl rfl) ?_
    refine FL.nilK ?_
    refine FC.cond_t rfl ?_
    refine FC.seq (FC.region ?_)
    refine sg_ rfl rfl rfl ?_
    refine FL.nilK ?_
    refine FC.ret ?_
    repeat with_reducible first | refine thn_ret ?_ | refine blk_ret ?_ | refine nog_ret ?_
    exact ret1 Try.results17 rfl ⟨⟨false, rfl, by simp [RefSpec, c1]⟩, Fr.refl _ _⟩
  by_cases c2 : 20000 < ps.length
  · refine FC.seq (FC.region ?_)
    refine mv_ rfl rfl rfl ?_
    refine mv_ rfl rfl rfl ?_
    refine FL.call rfl rfl (p_call Try.func13 rfl rfl rfl) (k1) ?_
    rintro e_ w_ ⟨rfl, rfl⟩
    refine ⟨_, rfl, ?_⟩
    refine FL.pur rfl rfl (p_neq rfl rfl (show _ = !false by simp [c1])) ?_
    refine mv_ rfl rfl rfl ?_
    refine mv_ rfl rfl rfl ?_
    refine FL.pur rfl rfl (p_len rfl Try.underlying22) ?_
    refine FL.pur rfl rfl (p_gtr rfl rfl (decide_eq_true (by omega))) ?_
    refine FL.pur rfl rfl (p_pick_f rfl rfl) ?_
    refine mv_ rfl rfl rfl ?_
    refine FL.off rfl rfl ?_
    refine FL.off rfl rfl ?_
    refine FL.off rfl rfl ?_
    refine FL.off rfl rfl ?_
    refine FL.pur rfl rfl (p_pick_t rfl rfl) ?_
    refine mv_ rfl rfl rfl ?_
    refine FL.off rfl rfl ?_
    refine FL.off rfl rfl ?_
    refine FL.off rfl rfl ?_
    refine FL.pur rfl rfl (p_pick_t rfl rfl) ?_
    refine mv_ rfl rfl rfl ?_
    refine FL.off rfl rfl ?_
    refine FL.off rfl rfl ?_
    refine FL.off rfl rfl ?_
    refine FL.off rfl rfl ?_
    refine FL.off rfl rfl ?_
    refine FL.off rfl rfl ?_
    refine FL.off rfl rfl ?_
    refine FL.off rfl rfl ?_
    refine FL.pur rfl rfl (p_pick_t rfl rfl) ?_
    refine FL.nilK ?_
    refine FC.cond_t rfl ?_
    refine FC.seq (FC.region ?_)
    refine sg_ rfl rfl rfl ?_
    refine FL.nilK ?_
    refine FC.ret ?_
    repeat with_reducible first | refine thn_ret ?_ | refine blk_ret ?_ | refine nog_ret ?_
    exact ret1 Try.results17 rfl ⟨⟨false, rfl, by have : ¬ ps.length ≤ 20000 := by omega
                                                  simp [RefSpec, this]⟩, Fr.refl _ _⟩
  by_cases c3 : checkV a ps = 0
  rotate_left
  · refine FC.seq (FC.region ?_)
    refine mv_ rfl rfl rfl ?_
    refine mv_ rfl rfl rfl ?_
    refine FL.call rfl rfl (p_call Try.func13 rfl rfl rfl) (k1) ?_
    rintro e_ w_ ⟨rfl, rfl⟩
    refine ⟨_, rfl, ?_⟩
    refine FL.pur rfl rfl (p_neq rfl rfl (show _ = !false by simp [c1])) ?_
    refine mv_ rfl rfl rfl ?_
    refine mv_ rfl rfl rfl ?_
    refine FL.pur rfl rfl (p_len rfl Try.underlying22) ?_
    refine FL.pur rfl rfl (p_gtr rfl rfl (decide_eq_false (by omega))) ?_
    refine FL.pur rfl rfl (p_pick_f rfl rfl) ?_
    refine mv_ rfl rfl rfl ?_
    refine mv_ rfl rfl rfl ?_
    refine mv_ rfl rfl rfl ?_
    refine FL.call rfl rfl (p_call Try.func13 rfl rfl rfl) (k2) ?_
    rintro e_ w_ ⟨rfl, rfl⟩
    refine ⟨_, rfl, ?_⟩
    refine FL.pur rfl rfl (p_neq rfl rfl (show _ = !true by simp [c3])) ?_
    refine FL.pur rfl rfl (p_pick_f rfl rfl) ?_
    refine mv_ rfl rfl rfl ?_
    refine FL.off rfl rfl ?_
    refine FL.off rfl rfl ?_
    refine FL.off rfl rfl ?_
    refine FL.pur rfl rfl (p_pick_t rfl rfl) ?_
    refine mv_ rfl rfl rfl ?_
    refine FL.off rfl rfl ?_
    refine FL.off rfl rfl ?_
    refine FL.off rfl rfl ?_
    refine FL.off rfl rfl ?_
    refine FL.off rfl rfl ?_
    refine FL.off rfl rfl ?_
    refine FL.off rfl rfl ?_
    refine FL.off rfl rfl ?_
    refine FL.pur rfl rfl (p_pick_t rfl rfl) ?_
    refine FL.nilK ?_
    refine FC.cond_t rfl ?_
    refine FC.seq (FC.region ?_)
    refine sg_ rfl rfl rfl ?_
    refine FL.nilK ?_
    refine FC.ret ?_
    repeat with_reducible first | refine thn_ret ?_ | refine blk_ret ?_ | refine nog_ret ?_
    exact ret1 Try.results17 rfl ⟨⟨false, rfl, by simp [RefSpec, c3]⟩, Fr.refl _ _⟩
  by_cases c4 : ps.length = 0
  · refine FC.seq (FC.region ?_)
    refine mv_ rfl rfl rfl ?_
    refine mv_ rfl rfl rfl ?_
    refine FL.call rfl rfl (p_call Try.func13 rfl rfl rfl) (k1) ?_
    rintro e_ w_ ⟨rfl, rfl⟩
    refine ⟨_, rfl, ?_⟩
    refine FL.pur rfl rfl (p_neq rfl rfl (show _ = !false by simp [c1])) ?_
    refine mv_ rfl rfl rfl ?_
    refine mv_ rfl rfl rfl ?_
    refine FL.pur rfl rfl (p_len rfl Try.underlying22) ?_
    refine FL.pur rfl rfl (p_gtr rfl rfl (decide_eq_false (by omega))) ?_
    refine FL.pur rfl rfl (p_pick_f rfl rfl) ?_
    refine mv_ rfl rfl rfl ?_
    refine mv_ rfl rfl rfl ?_
    refine mv_ rfl rfl rfl ?_
    refine FL.call rfl rfl (p_call Try.func13 rfl rfl rfl) (k2) ?_
    rintro e_ w_ ⟨rfl, rfl⟩
    refine ⟨_, rfl, ?_⟩
    refine FL.pur rfl rfl (p_neq rfl rfl (show _ = !false by simp [c3])) ?_
    refine FL.pur rfl rfl (p_pick_f rfl rfl) ?_
    refine mv_ rfl rfl rfl ?_
    refine mv_ rfl rfl rfl ?_
    refine FL.pur rfl rfl (p_len rfl Try.underlying22) ?_
    refine FL.pur rfl rfl (p_eql rfl rfl (decide_eq_true (by omega))) ?_
    refine FL.pur rfl rfl (p_pick_f rfl rfl) ?_
    refine mv_ rfl rfl rfl ?_
    refine FL.off rfl rfl ?_
    refine FL.off rfl rfl ?_
    refine FL.off rfl rfl ?_
    refine FL.off rfl rfl ?_
    refine FL.off rfl rfl ?_
    refine FL.off rfl rfl ?_
    refine FL.off rfl rfl ?_
    refine FL.off rfl rfl ?_
    refine FL.pur rfl rfl (p_pick_t rfl rfl) ?_
    refine FL.nilK ?_
    refine FC.cond_t rfl ?_
    refine FC.seq (FC.region ?_)
    refine sg_ rfl rfl rfl ?_
    refine FL.nilK ?_
    refine FC.ret ?_
    repeat with_reducible first | refine thn_ret ?_ | refine blk_ret ?_ | refine nog_ret ?_
    exact ret1 Try.results17 rfl ⟨⟨false, rfl, by have : ¬ 0 < ps.length := by omega
                                                  simp [RefSpec, this]⟩, Fr.refl _ _⟩
  obtain ⟨ad, u, rfl, hadB, hcu, hru⟩ := hc2 (ps.length - 1) (by omega)
  obtain ⟨A3, cap3, rfl, _⟩ := hru
  refine FC.seq (FC.region ?_)
  refine mv_ rfl rfl rfl ?_
  refine mv_ rfl rfl rfl ?_
  refine FL.call rfl rfl (p_call Try.func13 rfl rfl rfl) (k1) ?_
  rintro e_ w_ ⟨rfl, rfl⟩
  refine ⟨_, rfl, ?_⟩
  refine FL.pur rfl rfl (p_neq rfl rfl (show _ = !false by simp [c1])) ?_
  refine mv_ rfl rfl rfl ?_
  refine mv_ rfl rfl rfl ?_
  refine FL.pur rfl rfl (p_len rfl Try.underlying22) ?_
  refine FL.pur rfl rfl (p_gtr rfl rfl (decide_eq_false (by omega))) ?_
  refine FL.pur rfl rfl (p_pick_f rfl rfl) ?_
  refine mv_ rfl rfl rfl ?_
  refine mv_ rfl rfl rfl ?_
  refine mv_ rfl rfl rfl ?_
  refine FL.call rfl rfl (p_call Try.func13 rfl rfl rfl) (k2) ?_
  rintro e_ w_ ⟨rfl, rfl⟩
  refine ⟨_, rfl, ?_⟩
  refine FL.pur rfl rfl (p_neq rfl rfl (show _ = !false by simp [c3])) ?_
  refine FL.pur rfl rfl (p_pick_f rfl rfl) ?_
  refine mv_ rfl rfl rfl ?_
  refine mv_ rfl rfl rfl ?_
  refine FL.pur rfl rfl (p_len rfl Try.underlying22) ?_
  refine FL.pur rfl rfl (p_eql rfl rfl (decide_eq_false (by omega))) ?_
  refine FL.pur rfl rfl (p_pick_f rfl rfl) ?_
  refine mv_ rfl rfl rfl ?_
  refine mv_ rfl rfl rfl ?_
  refine mv_ rfl rfl rfl ?_
  refine FL.pur rfl rfl (p_len rfl Try.underlying22) ?_
  refine FL.pur rfl rfl (p_sub rfl rfl ((wr (by omega) (by omega)).trans (show (ps.length : Int) - 1 = ((ps.length - 1 : Nat) : Int) by omega))) ?_
  refine FL.pur rfl rfl (p_indexA rfl rfl Try.underlying22 inf41_eq inf41_size (by omega) (by omega)) ?_
  refine FL.val _ _ rfl rfl (p_load rfl Try.underlying41 rfl hcu) ?_
  refine FL.pur rfl rfl (p_len rfl Try.underlying41) ?_
  refine FL.pur rfl rfl (p_gtr rfl rfl rfl) ?_
  refine FL.pur rfl rfl (p_pick_f rfl rfl) ?_
  refine FL.nilK ?_
  refine FC.cond (decide (0 < ((ps.getD (ps.length - 1) []).length : Int))) rfl (fun c5 => ?_) (fun c5 => FC.skip (thn_normal ?_))
  · have c5 := of_decide_eq_true c5
    refine FC.seq (FC.region ?_)
    refine sg_ rfl rfl rfl ?_
    refine FL.nilK ?_
    refine FC.ret ?_
    repeat with_reducible first | refine thn_ret ?_ | refine blk_ret ?_ | refine nog_ret ?_
    exact ret1 Try.results17 rfl ⟨⟨false, rfl, by have : ¬ (ps.getD (ps.length - 1) []).length = 0 := by omega
                                                  exact ⟨fun h => (by cases h), fun h => absurd h.2.2.2.2.1 this⟩⟩, Fr.refl _ _⟩
  have c5 : (ps.getD (ps.length - 1) []).length = 0 := by have := of_decide_eq_false c5; omega
  obtain ⟨b1, b2, b3, b4⟩ := checkV_bad c1
  obtain ⟨_, _, _, b5⟩ := checkV_bad c3
  obtain ⟨m, rfl⟩ : ∃ m : Nat, a = m := ⟨a.toNat, by omega⟩
  have lit1 : ∀ c ∈ cs, ∀ l ∈ c, Lit (m + 1) l ∧ l ≠ 0 := fun c hc l hl => by
    have := b4 c hc l hl
    exact ⟨⟨by omega, by omega⟩, this.1⟩
  have lit2 : ∀ c ∈ ps, ∀ l ∈ c, Lit (m + 1) l ∧ l ≠ 0 := fun c hc l hl => by
    have := b5 c hc l hl
    exact ⟨⟨by omega, by omega⟩, this.1⟩
  refine FC.seq (FC.region ?_)
  refine FL.val _ _ rfl rfl bld22_0 ?_
  refine mv_ rfl rfl rfl ?_
  refine FL.valG _ rfl rfl (AllRow.copy (B0 := w.heap.size) h1' hP (Nat.le_refl _) (by omega) rfl rfl) ?_
  rintro v w1 ⟨hall, f1⟩
  refine sg_ rfl rfl rfl ?_
  refine FL.nilK ?_
  refine FC.cut (σ := Unit) (fun _ => []) (fun _ w2 => Fr (fun _ => False) w w2 ∧ ∀ i, i < ps.length → Taut (ps.getD i []) ∨ Conf (cs ++ ps.take i) fun l => -l ∈ ps.getD i []) ?_ ?_
  · refine FC.seq (FC.region ?_)
    refine sg_ rfl rfl rfl ?_
    refine FL.nilK ?_
    refine FC.block ?_
    refine FC.loop (σ := Nat × Value) (fun x => [(0, .int .i64 m), (2, .slice (some ad) ps.length cap2), (7, x.2), (8, .int .i64 x.1)]) (fun x w2 => x.1 ≤ ps.length ∧ AllRow w2 w.heap.size P x.2 (cs ++ ps.take x.1) ∧ Fr (fun _ => False) w w2 ∧ ∀ i, i < x.1 → Taut (ps.getD i []) ∨ Conf (cs ++ ps.take i) fun l => -l ∈ ps.getD i []) (fun x => ps.length - x.1) (0, v) ⟨Nat.zero_le _, by rw [List.take_zero, List.append_nil]; exact hall, f1, fun i hi => absurd hi (Nat.not_lt_zero _)⟩ ⟨rfl, rfl, rfl, rfl, trivial⟩ ?_
    clear hall f1
    rintro ⟨i, v⟩ w2 ⟨hi, hall, hf, hno⟩
    simp only at hi hall hf hno ⊢
    refine FC.seq ?_
    refine FC.seq (FC.region ?_)
    refine mv_ rfl rfl rfl ?_
    refine mv_ rfl rfl rfl ?_
    refine FL.pur rfl rfl (p_len rfl Try.underlying22) ?_
    refine FL.pur rfl rfl (p_lss rfl rfl rfl) ?_
    refine FL.nilK ?_
    refine FC.cond (decide ((i : Int) < (ps.length : Int))) rfl (fun hcc => FC.skip (thn_normal ?_)) (fun hcc => FC.exit ?_)
    rotate_left
    · have hge : ¬ (i : Int) < (ps.length : Int) := of_decide_eq_false hcc
      exact thn_exit (thn_exit (blk_exit ⟨(), trivial, hf, fun j hj => hno j (by omega)⟩))
    have hlt : i < ps.length := by have := of_decide_eq_true hcc; omega
    obtain ⟨ad', u1, e1, hadB1, hcu1, hru1⟩ := hc2 i hlt
    injection e1 with e1
    subst e1
    have hcu1 : w2.cell? (ad.add (i : Int).toNat) = some u1 := hf.cell hcu1 fun h => h
    have hd : ps.getD i [] ∈ ps := mem_getD hlt
    have hmem : ∀ d ∈ cs ++ ps.take i, d ∈ cs ∨ d ∈ ps := fun d hd => (List.mem_append.1 hd).imp id List.mem_of_mem_take
    have hlen : (cs ++ ps.take i).length ≤ 40000 := by simp; omega
    have kf := reffollows_calls (m := m) (w := w2) hall.rws.rws (hru1.fr hf fun _ _ h => h).row (Nat.le_refl _) (by omega) (fun d hd l hl => (hmem d hd).elim (fun h => lit1 d h l hl) (fun h => lit2 d h l hl)) (lit2 _ hd) (by omega) (fun d hd => (hmem d hd).elim (hll1 d) (hll2 d)) (hll2 _ hd)
    refine FC.seq ?_
    refine FC.block ?_
    refine FC.seq ?_
    refine FC.seq (FC.region ?_)
    refine mv_ rfl rfl rfl ?_
    refine mv_ rfl rfl rfl ?_
    refine mv_ rfl rfl rfl ?_
    refine mv_ rfl rfl rfl ?_
    refine FL.pur rfl rfl (p_indexA rfl rfl Try.underlying22 inf41_eq inf41_size (by omega) (by omega)) ?_
    refine FL.val _ _ rfl rfl (p_load rfl Try.underlying41 rfl hcu1) ?_
    refine FL.call rfl rfl (p_call Try.func40 rfl rfl rfl) (kf) ?_
    rintro e_ w_ ⟨⟨b, rfl, hb⟩, f3⟩
    refine ⟨_, rfl, ?_⟩
    refine FL.pur rfl rfl (p_not rfl) ?_
    refine FL.nilK ?_
    cases b with
    | false =>
      refine FC.cond_t rfl ?_
      refine FC.seq (FC.region ?_)
      refine sg_ rfl rfl rfl ?_
      refine FL.nilK ?_
      refine FC.ret ?_
      repeat with_reducible first | refine thn_ret ?_ | refine blk_ret ?_ | refine nog_ret ?_
      exact ret1 Try.results17 rfl ⟨⟨false, rfl, ⟨fun h => (by cases h), fun h => hb.2 (h.2.2.2.2.2 i hlt)⟩⟩, hf.trans f3 fun _ h => h.elim⟩
    | true =>
      refine FC.cond_f rfl (FC.skip (thn_normal ?_))
      have hall := hall.fr f3 (fun _ _ h => h) (fun _ _ h => h)
      have hf := hf.trans f3 fun _ h => h.elim
      have hcu2 := f3.cell hcu1 fun h => h
      have hru2 : RowP w_ (fun k => P k ∧ ¬ v.ownBlock = some k) u1 (ps.getD i []) := (hru1.fr hf fun _ _ h => h).mono fun k hk _ => ⟨hk, fun e => by
        have := hP k hk
        have := (hall.out.choose_spec.1.lt k e).1
        omega⟩
      refine FC.region ?_
      refine mv_ rfl rfl rfl ?_
      refine mv_ rfl rfl rfl ?_
      refine mv_ rfl rfl rfl ?_
      refine FL.pur rfl rfl (p_indexA rfl rfl Try.underlying22 inf41_eq inf41_size (by omega) (by omega)) ?_
      refine FL.val _ _ rfl rfl (p_load rfl Try.underlying41 rfl hcu2) ?_
      refine FL.val _ _ rfl rfl (bld22 rfl (by obtain ⟨A, cap, rfl, _⟩ := hru1; rfl)) ?_
      refine FL.valG _ rfl rfl (hall.app (by have := hf.size; omega) (by omega) hru2 rfl rfl) ?_
      rintro v3 w3 ⟨hall3, f4, _⟩
      refine sg_ rfl rfl rfl ?_
      refine FL.nil ?_
      refine blk_normal (thn_normal ?_)
      refine FC.region ?_
      refine mv_ rfl rfl rfl ?_
      refine FL.pur rfl rfl (p_add rfl rfl ((wr (by omega) (by omega)).trans (show (i : Int) + 1 = ((i + 1 : Nat) : Int) by omega))) ?_
      refine sg_ rfl rfl rfl ?_
      refine FL.nil ?_
      refine ⟨(i + 1, v3), ⟨rfl, rfl, rfl, rfl, trivial⟩, ⟨hlt, by rw [take_snoc ps i hlt, ← List.append_assoc]; exact hall3, hf.trans f4 fun k hk => .inr (hall.out.choose_spec.1.lt k hk).1, fun j hj => ?_⟩, by show ps.length - (i + 1) < ps.length - i; omega⟩
      by_cases e : j = i
      · rw [e]; exact hb.1 rfl
      · exact hno j (by omega)
  rintro - w2 ⟨hf, hall⟩
  refine FC.seq (FC.region ?_)
  refine sg_ rfl rfl rfl ?_
  refine FL.nilK ?_
  refine FC.ret ?_
  repeat with_reducible first | refine thn_ret ?_ | refine blk_ret ?_ | refine nog_ret ?_
  exact ret1 Try.results17 rfl ⟨⟨true, rfl, ⟨fun _ => ⟨c1, by omega, c3, by omega, c5, hall⟩, fun _ => rfl⟩⟩, hf⟩
end
end Go.Proofs.Ytcahhbcehnbdkaa.Sv

/- Walks of the reference: Many, Twin, True, Holds, Same. -/
namespace Go.Proofs.Ytcahhbcehnbdkaa.Sv
open Go.RowKit Go.Proofs.YtcahhbcehnbdkaaW.PrintWords Go.Proofs.YtcahhbcehnbdkaaW.PrintLast Go.Proofs.Ytcahhbcehnbdkaa.Eng
section
variable {w w' : World} {B mb : Nat} {P Q : Nat → Prop} {cs : List (List Int)} {bs : List Bool}
theorem sumL_take (cs : List (List Int)) (i : Nat) (h : i < cs.length) : sumL (cs.take (i + 1)) = sumL (cs.take i) + (cs.getD i []).length := by
  rw [take_snoc cs i h]; simp [sumL]
theorem sumL_le (cs : List (List Int)) (i : Nat) : sumL (cs.take i) ≤ sumL cs := by
  have : sumL cs = sumL (cs.take i) + sumL (cs.drop i) := by
    unfold sumL; rw [← List.sum_append, ← List.map_append, List.take_append_drop]
  omega
theorem many_calls {v : Value} (h : RwsP w P v cs) (lim : Nat) (hlim : lim ≤ 1000000) (hn : cs.length < 4611686018427387904) (hl : ∀ c ∈ cs, c.length < 4611686018427387904) :
    Calls Try.prog 10 #[v, .int .i64 lim] w fun e w' => e = .returned (.bool (manyV cs lim)) ∧ w = w' := by
  obtain ⟨A, cap, rfl, hc⟩ := h
  refine calls_of_FC (N := 32) (vs := [.slice A cs.length cap, .int .i64 lim]) Try.func10 rfl Try.ntmps10 (Nat.le_of_ble_eq_true rfl) ?_
  refine FC.seq (FC.region ?_)
  refine sg_ rfl rfl rfl ?_
  refine FL.nilK ?_
  refine FC.seq ?_
  refine FC.seq (FC.region ?_)
  refine mv_ rfl rfl rfl ?_
  refine FL.pur rfl rfl (p_len rfl Try.underlying22) ?_
  refine mv_ rfl rfl rfl ?_
  refine FL.pur rfl rfl (p_gtr rfl rfl rfl) ?_
  refine FL.nilK ?_
  refine FC.cond (decide ((lim : Int) < (cs.length : Int))) rfl (fun hcc => ?_) (fun hcc => FC.skip (thn_normal ?_))
  · have q := of_decide_eq_true hcc
    refine FC.seq (FC.region ?_)
    refine sg_ rfl rfl rfl ?_
    refine FL.nilK ?_
    refine FC.ret ?_
    repeat with_reducible first | refine thn_ret ?_ | refine blk_ret ?_ | refine nog_ret ?_
    exact ret1 Try.results10 rfl ⟨by unfold manyV; rw [decide_eq_true (show lim < cs.length by omega)]; rfl, rfl⟩
  have q := of_decide_eq_false hcc
  clear hcc
  refine FC.seq (FC.region ?_)
  refine sg_ rfl rfl rfl ?_
  refine FL.nilK ?_
  refine FC.cut (σ := Nat) (fun n => [(1, .int .i64 lim), (5, .int .i64 n)]) (fun n w2 => w = w2 ∧ decide (lim < n) = decide (lim < sumL cs)) ?_ ?_
  · refine FC.seq (FC.region ?_)
    refine sg_ rfl rfl rfl ?_
    refine FL.nilK ?_
    refine FC.block ?_
    refine FC.loop (σ := Nat) (fun i => [(0, .slice A cs.length cap), (1, .int .i64 lim), (5, .int .i64 (sumL (cs.take i))), (6, .int .i64 i)]) (fun i w2 => w = w2 ∧ i ≤ cs.length ∧ sumL (cs.take i) < 4611686018428387905) (fun i => cs.length - i) 0 ⟨rfl, Nat.zero_le _, by simp [sumL]⟩ ⟨rfl, rfl, rfl, rfl, trivial⟩ ?_
    rintro i w2 ⟨rfl, hi, hsm⟩
    refine FC.seq ?_
    by_cases q1 : i < cs.length
    rotate_left
    · refine FC.seq (FC.region ?_)
      refine mv_ rfl rfl rfl ?_
      refine mv_ rfl rfl rfl ?_
      refine FL.pur rfl rfl (p_len rfl Try.underlying22) ?_
      refine FL.pur rfl rfl (p_lss rfl rfl (decide_eq_false (by omega))) ?_
      refine mv_ rfl rfl rfl ?_
      refine FL.off rfl rfl ?_
      refine FL.off rfl rfl ?_
      refine FL.off rfl rfl ?_
      refine FL.pur rfl rfl (p_pick_f rfl rfl) ?_
      refine FL.nilK ?_
      refine FC.cond_f rfl (FC.exit ?_)
      exact thn_exit (thn_exit (blk_exit ⟨sumL (cs.take i), ⟨rfl, rfl, trivial⟩, rfl, by rw [List.take_of_length_le (by omega)]⟩))
    by_cases q2 : sumL (cs.take i) ≤ lim
    rotate_left
    · refine FC.seq (FC.region ?_)
      refine mv_ rfl rfl rfl ?_
      refine mv_ rfl rfl rfl ?_
      refine FL.pur rfl rfl (p_len rfl Try.underlying22) ?_
      refine FL.pur rfl rfl (p_lss rfl rfl (decide_eq_true (by omega))) ?_
      refine mv_ rfl rfl rfl ?_
      refine mv_ rfl rfl rfl ?_
      refine mv_ rfl rfl rfl ?_
      refine FL.pur rfl rfl (p_leq rfl rfl (decide_eq_false (by omega))) ?_
      refine FL.pur rfl rfl (p_pick_t rfl rfl) ?_
      refine FL.nilK ?_
      refine FC.cond_f rfl (FC.exit ?_)
      exact thn_exit (thn_exit (blk_exit ⟨sumL (cs.take i), ⟨rfl, rfl, trivial⟩, rfl, by
        have := sumL_le cs i
        rw [decide_eq_true (show lim < sumL (cs.take i) by omega), decide_eq_true (show lim < sumL cs by omega)]⟩))
    obtain ⟨ad, u, rfl, _, hcu, A2, cap2, rfl, _⟩ := hc i q1
    have hq := hl _ (mem_getD (d := []) q1)
    have hst := sumL_take cs i q1
    have hcu : w.cell? (ad.add (i : Int).toNat) = _ := hcu
    refine FC.seq (FC.region ?_)
    refine mv_ rfl rfl rfl ?_
    refine mv_ rfl rfl rfl ?_
    refine FL.pur rfl rfl (p_len rfl Try.underlying22) ?_
    refine FL.pur rfl rfl (p_lss rfl rfl (decide_eq_true (by omega))) ?_
    refine mv_ rfl rfl rfl ?_
    refine mv_ rfl rfl rfl ?_
    refine mv_ rfl rfl rfl ?_
    refine FL.pur rfl rfl (p_leq rfl rfl (decide_eq_true (by omega))) ?_
    refine FL.pur rfl rfl (p_pick_t rfl rfl) ?_
    refine FL.nilK ?_
    refine FC.cond_t rfl (FC.skip (thn_normal ?_))
    refine FC.seq ?_
    refine FC.block ?_
    refine FC.region ?_
    refine mv_ rfl rfl rfl ?_
    refine mv_ rfl rfl rfl ?_
    refine mv_ rfl rfl rfl ?_
    refine FL.pur rfl rfl (p_indexA rfl rfl Try.underlying22 inf41_eq inf41_size (by omega) (by omega)) ?_
    refine FL.val _ _ rfl rfl (p_load rfl Try.underlying41 rfl hcu) ?_
    refine FL.pur rfl rfl (p_len rfl Try.underlying41) ?_
    refine FL.pur rfl rfl (p_add rfl rfl ((wr (by omega) (by omega)).trans (show ((sumL (cs.take i) : Nat) : Int) + ((cs.getD i []).length : Int) = ((sumL (cs.take (i + 1)) : Nat) : Int) by omega))) ?_
    refine sg_ rfl rfl rfl ?_
    refine FL.nil ?_
    refine blk_normal (thn_normal ?_)
    refine FC.region ?_
    refine mv_ rfl rfl rfl ?_
    refine FL.pur rfl rfl (p_add rfl rfl ((wr (by omega) (by omega)).trans (show (i : Int) + 1 = ((i + 1 : Nat) : Int) by omega))) ?_
    refine sg_ rfl rfl rfl ?_
    refine FL.nil ?_
    exact ⟨i + 1, ⟨rfl, rfl, rfl, rfl, trivial⟩, ⟨rfl, q1, by omega⟩, by show cs.length - (i + 1) < cs.length - i; omega⟩
  rintro n w2 ⟨rfl, hn2⟩
  refine FC.seq (FC.region ?_)
  refine mv_ rfl rfl rfl ?_
  refine mv_ rfl rfl rfl ?_
  refine FL.pur rfl rfl (p_gtr rfl rfl (show _ = decide (lim < n) by simp [Int.ofNat_lt])) ?_
  refine sg_ rfl rfl rfl ?_
  refine FL.nilK ?_
  refine FC.ret ?_
  repeat with_reducible first | refine thn_ret ?_ | refine blk_ret ?_ | refine nog_ret ?_
  exact ret1 Try.results10 rfl ⟨by unfold manyV; rw [hn2, decide_eq_false (show ¬ lim < cs.length by omega), Bool.false_or], rfl⟩
set_option maxHeartbeats 1000000 in
theorem twin_calls {v : Value} (h : RwsP w P v cs) (hP : ∀ k, P k → k < w.heap.size) (hn : cs.length < 1099511627776) (hl : ∀ c ∈ cs, c.length < 1099511627776) :
    Calls Try.prog 11 #[v] w fun e w' => ∃ v', e = .returned v' ∧ AllRow w' w.heap.size (fun k => w.heap.size ≤ k) v' cs ∧ Fr (fun _ => False) w w' := by
  obtain ⟨A, cap, rfl, hc⟩ := h
  refine calls_of_FC (N := 21) (vs := [.slice A cs.length cap]) Try.func11 rfl Try.ntmps11 (Nat.le_of_ble_eq_true rfl) ?_
  refine FC.seq (FC.region ?_)
  refine sg_ rfl rfl rfl ?_
  refine FL.nilK ?_
  refine FC.seq (FC.region ?_)
  refine sg_ rfl rfl rfl ?_
  refine FL.nilK ?_
  refine FC.cut (σ := Value) (fun v => [(3, v)]) (fun v w2 => AllRow w2 w.heap.size (fun k => w.heap.size ≤ k) v cs ∧ Fr (fun _ => False) w w2) ?_ ?_
  · refine FC.seq (FC.region ?_)
    refine sg_ rfl rfl rfl ?_
    refine FL.nilK ?_
    refine FC.block ?_
    refine FC.loop (σ := Nat × Value) (fun x => [(0, .slice A cs.length cap), (3, x.2), (4, .int .i64 x.1)]) (fun x w2 => x.1 ≤ cs.length ∧ AllRow w2 w.heap.size (fun k => w.heap.size ≤ k) x.2 (cs.take x.1) ∧ Fr (fun _ => False) w w2) (fun x => cs.length - x.1) (0, .slice none 0 0) ⟨Nat.zero_le _, by rw [List.take_zero]; exact AllRow.nil rfl, Fr.refl _ _⟩ ⟨rfl, rfl, rfl, trivial⟩ ?_
    rintro ⟨i, v⟩ w2 ⟨hi, hall, hf⟩
    simp only at hi hall hf ⊢
    refine FC.seq ?_
    refine FC.seq (FC.region ?_)
    refine mv_ rfl rfl rfl ?_
    refine mv_ rfl rfl rfl ?_
    refine FL.pur rfl rfl (p_len rfl Try.underlying22) ?_
    refine FL.pur rfl rfl (p_lss rfl rfl rfl) ?_
    refine FL.nilK ?_
    refine FC.cond (decide ((i : Int) < (cs.length : Int))) rfl (fun hcc => FC.skip (thn_normal ?_)) (fun hcc => FC.exit ?_)
    rotate_left
    · have hge : ¬ (i : Int) < (cs.length : Int) := of_decide_eq_false hcc
      rw [List.take_of_length_le (by omega)] at hall
      exact thn_exit (thn_exit (blk_exit ⟨v, ⟨rfl, trivial⟩, hall, hf⟩))
    have hlt : i < cs.length := by have := of_decide_eq_true hcc; omega
    obtain ⟨ad, u, rfl, hadB, hcu, hru⟩ := hc i hlt
    have hcu : (w2.alloc (.cells #[] 3)).cell? (ad.add (i : Int).toNat) = some u := cell_alloc (hf.cell hcu fun h => h) _
    have hru := hru.fr hf fun _ _ h => h
    have hq := hl _ (mem_getD (d := []) hlt)
    refine FC.seq ?_
    refine FC.block ?_
    refine FC.region ?_
    refine mv_ rfl rfl rfl ?_
    refine FL.val _ _ rfl rfl bld41_0 ?_
    refine mv_ rfl rfl rfl ?_
    refine mv_ rfl rfl rfl ?_
    refine FL.pur rfl rfl (p_indexA rfl rfl Try.underlying22 inf41_eq inf41_size (by omega) (by omega)) ?_
    refine FL.val _ _ rfl rfl (p_load rfl Try.underlying41 rfl hcu) ?_
    refine FL.valG _ rfl rfl (copy_row hru hq rfl rfl) ?_
    rintro u3 w3 ⟨ho, f3⟩
    have hv3 : u3.cells = #[u3] := by obtain ⟨A', c', rfl⟩ := own_slice ho; rfl
    refine FL.val _ _ rfl rfl (bld22 rfl hv3) ?_
    have hall3 := hall.fr f3 (fun _ _ h => h) (fun _ _ h => h)
    have hr3 : RowP w3 (fun k => w.heap.size ≤ k ∧ ¬ v.ownBlock = some k) u3 (cs.getD i []) := (rowP_own ho).mono fun k hk _ => ⟨Nat.le_trans hf.size hk.1, fun e => by have := (hall.out.choose_spec.1.lt k e).2; omega⟩
    refine FL.valG _ rfl rfl (hall3.app (by have := hf.size; have := f3.size; omega) (by simp; omega) hr3 rfl rfl) ?_
    rintro v4 w4 ⟨hall4, f4, _⟩
    refine sg_ rfl rfl rfl ?_
    refine FL.nil ?_
    refine blk_normal (thn_normal ?_)
    refine FC.region ?_
    refine mv_ rfl rfl rfl ?_
    refine FL.pur rfl rfl (p_add rfl rfl ((wr (by omega) (by omega)).trans (show (i : Int) + 1 = ((i + 1 : Nat) : Int) by omega))) ?_
    refine sg_ rfl rfl rfl ?_
    refine FL.nil ?_
    exact ⟨(i + 1, v4), ⟨rfl, rfl, rfl, trivial⟩, ⟨hlt, by rw [take_snoc cs i hlt]; exact hall4, (hf.trans f3 fun _ h => h.elim).trans f4 fun k hk => .inr (hall.out.choose_spec.1.lt k hk).1⟩, by show cs.length - (i + 1) < cs.length - i; omega⟩
  rintro v w2 ⟨hall, hf⟩
  refine FC.seq (FC.region ?_)
  refine mv_ rfl rfl rfl ?_
  refine sg_ rfl rfl rfl ?_
  refine FL.nilK ?_
  refine FC.ret ?_
  repeat with_reducible first | refine thn_ret ?_ | refine blk_ret ?_ | refine nog_ret ?_
  exact ret1 Try.results11 rfl ⟨v, rfl, hall, hf⟩
theorem true_calls {v : Value} (h : BRow w B v bs) (hl : bs.length < 4611686018427387904) (l : Int) (hl1 : -9223372036854775808 ≤ l) (hl2 : l < 9223372036854775808) :
    Calls Try.prog 29 #[.int .i64 l, v] w fun e w' => e = .returned (.bool (isB bs l)) ∧ w = w' := by
  obtain ⟨A, cap, rfl, hcell⟩ := h
  refine calls_of_FC (N := 34) (vs := [.int .i64 l, .slice A bs.length cap]) Try.func29 rfl Try.ntmps29 (Nat.le_of_ble_eq_true rfl) ?_
  refine FC.seq (FC.region ?_)
  refine sg_ rfl rfl rfl ?_
  refine FL.nilK ?_
  refine FC.seq ?_
  by_cases c1 : 0 < l ∧ l ≤ bs.length
  · obtain ⟨ad, rfl, _, hc⟩ := hcell (l - 1).toNat (by omega)
    refine FC.seq (FC.region ?_)
    refine mv_ rfl rfl rfl ?_
    refine FL.pur rfl rfl (p_gtr rfl rfl (decide_eq_true c1.1)) ?_
    refine mv_ rfl rfl rfl ?_
    refine mv_ rfl rfl rfl ?_
    refine mv_ rfl rfl rfl ?_
    refine FL.pur rfl rfl (p_len rfl Try.underlying23) ?_
    refine FL.pur rfl rfl (p_leq rfl rfl (decide_eq_true c1.2)) ?_
    refine FL.pur rfl rfl (p_pick_t rfl rfl) ?_
    refine FL.nilK ?_
    refine FC.cond_t rfl ?_
    refine FC.seq (FC.region ?_)
    refine mv_ rfl rfl rfl ?_
    refine mv_ rfl rfl rfl ?_
    refine FL.pur rfl rfl (p_sub rfl rfl (wr (by omega) (by omega))) ?_
    refine FL.pur rfl rfl (p_indexA rfl rfl Try.underlying23 inf4_eq inf4_size (by omega) (by omega)) ?_
    refine FL.val _ _ rfl rfl (p_load rfl Try.underlying4 rfl hc) ?_
    refine sg_ rfl rfl rfl ?_
    refine FL.nilK ?_
    refine FC.ret ?_
    repeat with_reducible first | refine thn_ret ?_ | refine blk_ret ?_ | refine nog_ret ?_
    exact ret1 Try.results29 rfl ⟨by unfold isB; rw [if_pos c1], rfl⟩
  by_cases c2 : 0 < l
  · refine FC.seq (FC.region ?_)
    refine mv_ rfl rfl rfl ?_
    refine FL.pur rfl rfl (p_gtr rfl rfl (decide_eq_true c2)) ?_
    refine mv_ rfl rfl rfl ?_
    refine mv_ rfl rfl rfl ?_
    refine mv_ rfl rfl rfl ?_
    refine FL.pur rfl rfl (p_len rfl Try.underlying23) ?_
    refine FL.pur rfl rfl (p_leq rfl rfl (decide_eq_false (by omega))) ?_
    refine FL.pur rfl rfl (p_pick_t rfl rfl) ?_
    refine FL.nilK ?_
    refine FC.cond_f rfl (FC.skip (thn_normal ?_))
    refine FC.seq ?_
    refine FC.seq (FC.region ?_)
    refine mv_ rfl rfl rfl ?_
    refine FL.pur rfl rfl (p_lss rfl rfl (decide_eq_false (by omega))) ?_
    refine mv_ rfl rfl rfl ?_
    refine FL.off rfl rfl ?_
    refine FL.off rfl rfl ?_
    refine FL.off rfl rfl ?_
    refine FL.off rfl rfl ?_
    refine FL.off rfl rfl ?_
    refine FL.pur rfl rfl (p_pick_f rfl rfl) ?_
    refine FL.nilK ?_
    refine FC.cond_f rfl (FC.skip (thn_normal ?_))
    refine FC.seq (FC.region ?_)
    refine sg_ rfl rfl rfl ?_
    refine FL.nilK ?_
    refine FC.ret ?_
    repeat with_reducible first | refine thn_ret ?_ | refine blk_ret ?_ | refine nog_ret ?_
    exact ret1 Try.results29 rfl ⟨by unfold isB; rw [if_neg c1, if_neg (by omega)], rfl⟩
  by_cases c3 : l < 0 ∧ -(bs.length : Int) ≤ l
  · obtain ⟨ad, rfl, _, hc⟩ := hcell (-l - 1).toNat (by omega)
    refine FC.seq (FC.region ?_)
    refine mv_ rfl rfl rfl ?_
    refine FL.pur rfl rfl (p_gtr rfl rfl (decide_eq_false c2)) ?_
    refine mv_ rfl rfl rfl ?_
    refine FL.off rfl rfl ?_
    refine FL.off rfl rfl ?_
    refine FL.off rfl rfl ?_
    refine FL.off rfl rfl ?_
    refine FL.pur rfl rfl (p_pick_f rfl rfl) ?_
    refine FL.nilK ?_
    refine FC.cond_f rfl (FC.skip (thn_normal ?_))
    refine FC.seq ?_
    refine FC.seq (FC.region ?_)
    refine mv_ rfl rfl rfl ?_
    refine FL.pur rfl rfl (p_lss rfl rfl (decide_eq_true c3.1)) ?_
    refine mv_ rfl rfl rfl ?_
    refine mv_ rfl rfl rfl ?_
    refine mv_ rfl rfl rfl ?_
    refine FL.pur rfl rfl (p_len rfl Try.underlying23) ?_
    refine FL.pur rfl rfl (p_neg rfl (wr (by omega) (by omega))) ?_
    refine FL.pur rfl rfl (p_geq rfl rfl (decide_eq_true c3.2)) ?_
    refine FL.pur rfl rfl (p_pick_t rfl rfl) ?_
    refine FL.nilK ?_
    refine FC.cond_t rfl ?_
    refine FC.seq (FC.region ?_)
    refine mv_ rfl rfl rfl ?_
    refine mv_ rfl rfl rfl ?_
    refine FL.pur rfl rfl (p_neg rfl (wr (by omega) (by omega))) ?_
    refine FL.pur rfl rfl (p_sub rfl rfl (wr (by omega) (by omega))) ?_
    refine FL.pur rfl rfl (p_indexA rfl rfl Try.underlying23 inf4_eq inf4_size (by omega) (by omega)) ?_
    refine FL.val _ _ rfl rfl (p_load rfl Try.underlying4 rfl hc) ?_
    refine FL.pur rfl rfl (p_not rfl) ?_
    refine sg_ rfl rfl rfl ?_
    refine FL.nilK ?_
    refine FC.ret ?_
    repeat with_reducible first | refine thn_ret ?_ | refine blk_ret ?_ | refine nog_ret ?_
    exact ret1 Try.results29 rfl ⟨by unfold isB; rw [if_neg c1, if_pos c3], rfl⟩
  by_cases c4 : l < 0
  · refine FC.seq (FC.region ?_)
    refine mv_ rfl rfl rfl ?_
    refine FL.pur rfl rfl (p_gtr rfl rfl (decide_eq_false c2)) ?_
    refine mv_ rfl rfl rfl ?_
    refine FL.off rfl rfl ?_
    refine FL.off rfl rfl ?_
    refine FL.off rfl rfl ?_
    refine FL.off rfl rfl ?_
    refine FL.pur rfl rfl (p_pick_f rfl rfl) ?_
    refine FL.nilK ?_
    refine FC.cond_f rfl (FC.skip (thn_normal ?_))
    refine FC.seq ?_
    refine FC.seq (FC.region ?_)
    refine mv_ rfl rfl rfl ?_
    refine FL.pur rfl rfl (p_lss rfl rfl (decide_eq_true c4)) ?_
    refine mv_ rfl rfl rfl ?_
    refine mv_ rfl rfl rfl ?_
    refine mv_ rfl rfl rfl ?_
    refine FL.pur rfl rfl (p_len rfl Try.underlying23) ?_
    refine FL.pur rfl rfl (p_neg rfl (wr (by omega) (by omega))) ?_
    refine FL.pur rfl rfl (p_geq rfl rfl (decide_eq_false (by omega))) ?_
    refine FL.pur rfl rfl (p_pick_t rfl rfl) ?_
    refine FL.nilK ?_
    refine FC.cond_f rfl (FC.skip (thn_normal ?_))
    refine FC.seq (FC.region ?_)
    refine sg_ rfl rfl rfl ?_
    refine FL.nilK ?_
    refine FC.ret ?_
    repeat with_reducible first | refine thn_ret ?_ | refine blk_ret ?_ | refine nog_ret ?_
    exact ret1 Try.results29 rfl ⟨by unfold isB; rw [if_neg c1, if_neg c3], rfl⟩
  · refine FC.seq (FC.region ?_)
    refine mv_ rfl rfl rfl ?_
    refine FL.pur rfl rfl (p_gtr rfl rfl (decide_eq_false c2)) ?_
    refine mv_ rfl rfl rfl ?_
    refine FL.off rfl rfl ?_
    refine FL.off rfl rfl ?_
    refine FL.off rfl rfl ?_
    refine FL.off rfl rfl ?_
    refine FL.pur rfl rfl (p_pick_f rfl rfl) ?_
    refine FL.nilK ?_
    refine FC.cond_f rfl (FC.skip (thn_normal ?_))
    refine FC.seq ?_
    refine FC.seq (FC.region ?_)
    refine mv_ rfl rfl rfl ?_
    refine FL.pur rfl rfl (p_lss rfl rfl (decide_eq_false c4)) ?_
    refine mv_ rfl rfl rfl ?_
    refine FL.off rfl rfl ?_
    refine FL.off rfl rfl ?_
    refine FL.off rfl rfl ?_
    refine FL.off rfl rfl ?_
    refine FL.off rfl rfl ?_
    refine FL.pur rfl rfl (p_pick_f rfl rfl) ?_
    refine FL.nilK ?_
    refine FC.cond_f rfl (FC.skip (thn_normal ?_))
    refine FC.seq (FC.region ?_)
    refine sg_ rfl rfl rfl ?_
    refine FL.nilK ?_
    refine FC.ret ?_
    repeat with_reducible first | refine thn_ret ?_ | refine blk_ret ?_ | refine nog_ret ?_
    exact ret1 Try.results29 rfl ⟨by unfold isB; rw [if_neg c1, if_neg c3], rfl⟩
set_option maxHeartbeats 1000000 in
theorem refholds_calls {v u : Value} (h : Rws w B v cs) (hb : BRow w B u bs) (hl : cs.length < 4611686018427387904) (hll : ∀ c ∈ cs, c.length < 4611686018427387904 ∧ Small64 c) (hbl : bs.length < 4611686018427387904) :
    Calls Try.prog 15 #[v, u] w fun e w' => e = .returned (.bool (cs.all fun c => c.any (isB bs))) ∧ w = w' := by
  obtain ⟨A, cap, rfl, hc⟩ := h
  refine calls_of_FC (N := 37) (vs := [.slice A cs.length cap, u]) Try.func15 rfl Try.ntmps15 (Nat.le_of_ble_eq_true rfl) ?_
  refine FC.seq (FC.region ?_)
  refine sg_ rfl rfl rfl ?_
  refine FL.nilK ?_
  refine FC.cut (σ := Unit) (fun _ => []) (fun _ w2 => w = w2 ∧ (cs.all fun c => c.any (isB bs)) = true) ?_ ?_
  · refine FC.seq (FC.region ?_)
    refine sg_ rfl rfl rfl ?_
    refine FL.nilK ?_
    refine FC.block ?_
    refine FC.loop (σ := Nat) (fun i => [(0, .slice A cs.length cap), (1, u), (5, .int .i64 i)]) (fun i w2 => w = w2 ∧ i ≤ cs.length ∧ ((cs.take i).all fun c => c.any (isB bs)) = true) (fun i => cs.length - i) 0 ⟨rfl, Nat.zero_le _, rfl⟩ ⟨rfl, rfl, rfl, trivial⟩ ?_
    rintro i w2 ⟨rfl, hi, hno⟩
    refine FC.seq ?_
    refine FC.seq (FC.region ?_)
    refine mv_ rfl rfl rfl ?_
    refine mv_ rfl rfl rfl ?_
    refine FL.pur rfl rfl (p_len rfl Try.underlying22) ?_
    refine FL.pur rfl rfl (p_lss rfl rfl rfl) ?_
    refine FL.nilK ?_
    refine FC.cond (decide ((i : Int) < (cs.length : Int))) rfl (fun hcc => FC.skip (thn_normal ?_)) (fun hcc => FC.exit ?_)
    rotate_left
    · have hge : ¬ (i : Int) < (cs.length : Int) := of_decide_eq_false hcc
      rw [List.take_of_length_le (by omega)] at hno
      exact thn_exit (thn_exit (blk_exit ⟨(), trivial, rfl, hno⟩))
    have hlt : i < cs.length := by have := of_decide_eq_true hcc; omega
    obtain ⟨ad, z, rfl, _, hcu, A2, cap2, rfl, hc2⟩ := hc i hlt
    have hcu : w.cell? (ad.add (i : Int).toNat) = _ := hcu
    have hst := all_take (fun c => c.any (isB bs)) [] cs i hlt hno
    have hq := hll _ (mem_getD (d := []) hlt)
    obtain ⟨d, hd⟩ : ∃ d, d = cs.getD i [] := ⟨_, rfl⟩
    rw [← hd] at hcu hc2 hq hst
    refine FC.seq ?_
    refine FC.block ?_
    refine FC.seq (FC.region ?_)
    refine sg_ rfl rfl rfl ?_
    refine FL.nilK ?_
    refine FC.cut (σ := Unit) (fun _ => [(0, .slice (some ad) cs.length cap), (1, u), (5, .int .i64 i), (6, .bool (d.any (isB bs)))]) (fun _ w2 => w = w2) ?_ ?_
    · refine FC.seq (FC.region ?_)
      refine sg_ rfl rfl rfl ?_
      refine FL.nilK ?_
      refine FC.block ?_
      refine FC.loop (σ := Nat) (fun j => [(0, .slice (some ad) cs.length cap), (1, u), (5, .int .i64 i), (6, .bool ((d.take j).any (isB bs))), (7, .int .i64 j)]) (fun j w2 => w = w2 ∧ j ≤ d.length) (fun j => d.length - j) 0 ⟨rfl, Nat.zero_le _⟩ ⟨rfl, rfl, rfl, rfl, rfl, trivial⟩ ?_
      rintro j w2 ⟨rfl, hj⟩
      refine FC.seq ?_
      refine FC.seq (FC.region ?_)
      refine mv_ rfl rfl rfl ?_
      refine mv_ rfl rfl rfl ?_
      refine mv_ rfl rfl rfl ?_
      refine FL.pur rfl rfl (p_indexA rfl rfl Try.underlying22 inf41_eq inf41_size (by omega) (by omega)) ?_
      refine FL.val _ _ rfl rfl (p_load rfl Try.underlying41 rfl hcu) ?_
      refine FL.pur rfl rfl (p_len rfl Try.underlying41) ?_
      refine FL.pur rfl rfl (p_lss rfl rfl rfl) ?_
      refine FL.nilK ?_
      refine FC.cond (decide ((j : Int) < (d.length : Int))) rfl (fun hcc => FC.skip (thn_normal ?_)) (fun hcc => FC.exit ?_)
      rotate_left
      · have hge : ¬ (j : Int) < (d.length : Int) := of_decide_eq_false hcc
        rw [List.take_of_length_le (by omega)]
        exact thn_exit (thn_exit (blk_exit ⟨(), ⟨rfl, rfl, rfl, rfl, trivial⟩, rfl⟩))
      have hjt : j < d.length := by have := of_decide_eq_true hcc; omega
      obtain ⟨ad2, rfl, _, hcl⟩ := hc2 j hjt
      have hcl : w.cell? (ad2.add (j : Int).toNat) = some (.int .i64 (g d j)) := hcl
      have hs := hq.2 _ (rd_mem d j (by omega) (by omega))
      have kt := true_calls (B := B) hb hbl (g d j) hs.1 hs.2
      refine FC.seq ?_
      refine FC.block ?_
      cases hb1 : (d.take j).any (isB bs) with
      | true =>
        refine FC.region ?_
        refine mv_ rfl rfl rfl ?_
        refine mv_ rfl rfl rfl ?_
        refine FL.off rfl rfl ?_
        refine FL.off rfl rfl ?_
        refine FL.off rfl rfl ?_
        refine FL.off rfl rfl ?_
        refine FL.off rfl rfl ?_
        refine FL.off rfl rfl ?_
        refine FL.off rfl rfl ?_
        refine FL.off rfl rfl ?_
        refine FL.off rfl rfl ?_
        refine FL.pur rfl rfl (p_pick_t rfl rfl) ?_
        refine sg_ rfl rfl rfl ?_
        refine FL.nil ?_
        refine blk_normal (thn_normal ?_)
        refine FC.region ?_
        refine mv_ rfl rfl rfl ?_
        refine FL.pur rfl rfl (p_add rfl rfl ((wr (by omega) (by omega)).trans (show (j : Int) + 1 = ((j + 1 : Nat) : Int) by omega))) ?_
        refine sg_ rfl rfl rfl ?_
        refine FL.nil ?_
        have e : (d.take (j + 1)).any (isB bs) = true := by rw [List.take_add_one, List.any_append, hb1, Bool.true_or]
        exact ⟨j + 1, ⟨rfl, rfl, rfl, by rw [e]; rfl, rfl, trivial⟩, ⟨rfl, hjt⟩, by show d.length - (j + 1) < d.length - j; omega⟩
      | false =>
        refine FC.region ?_
        refine mv_ rfl rfl rfl ?_
        refine mv_ rfl rfl rfl ?_
        refine mv_ rfl rfl rfl ?_
        refine mv_ rfl rfl rfl ?_
        refine FL.pur rfl rfl (p_indexA rfl rfl Try.underlying22 inf41_eq inf41_size (by omega) (by omega)) ?_
        refine FL.val _ _ rfl rfl (p_load rfl Try.underlying41 rfl hcu) ?_
        refine mv_ rfl rfl rfl ?_
        refine FL.pur rfl rfl (p_indexA rfl rfl Try.underlying41 inf3_eq inf3_size (by omega) (by omega)) ?_
        refine FL.val _ _ rfl rfl (p_load rfl Try.underlying3 rfl hcl) ?_
        refine mv_ rfl rfl rfl ?_
        refine FL.call rfl rfl (p_call Try.func29 rfl rfl rfl) (kt) ?_
        rintro e_ w_ ⟨rfl, rfl⟩
        refine ⟨_, rfl, ?_⟩
        refine FL.pur rfl rfl (p_pick_f rfl rfl) ?_
        refine sg_ rfl rfl rfl ?_
        refine FL.nil ?_
        refine blk_normal (thn_normal ?_)
        refine FC.region ?_
        refine mv_ rfl rfl rfl ?_
        refine FL.pur rfl rfl (p_add rfl rfl ((wr (by omega) (by omega)).trans (show (j : Int) + 1 = ((j + 1 : Nat) : Int) by omega))) ?_
        refine sg_ rfl rfl rfl ?_
        refine FL.nil ?_
        have e := any_take' (isB bs) d j hjt hb1
        exact ⟨j + 1, ⟨rfl, rfl, rfl, by rw [e]; rfl, rfl, trivial⟩, ⟨rfl, hjt⟩, by show d.length - (j + 1) < d.length - j; omega⟩
    rintro - w2 rfl
    refine FC.seq (FC.region ?_)
    refine mv_ rfl rfl rfl ?_
    refine FL.pur rfl rfl (p_not rfl) ?_
    refine FL.nilK ?_
    refine FC.cond (!(d.any (isB bs))) rfl (fun hcc => ?_) (fun hcc => FC.skip ?_)
    · refine FC.seq (FC.region ?_)
      refine sg_ rfl rfl rfl ?_
      refine FL.nilK ?_
      refine FC.ret ?_
      repeat with_reducible first | refine thn_ret ?_ | refine blk_ret ?_ | refine nog_ret ?_
      refine ret1 Try.results15 rfl ⟨?_, rfl⟩
      have hno : (cs.all fun c => c.any (isB bs)) = false := by
        rw [Bool.eq_false_iff]
        intro hall
        have := List.all_eq_true.1 hall _ (mem_getD (d := []) hlt)
        rw [← hd] at this
        rw [this] at hcc; cases hcc
      rw [hno]
    · have hcc : d.any (isB bs) = true := by simpa using hcc
      refine blk_normal (thn_normal ?_)
      refine FC.region ?_
      refine mv_ rfl rfl rfl ?_
      refine FL.pur rfl rfl (p_add rfl rfl ((wr (by omega) (by omega)).trans (show (i : Int) + 1 = ((i + 1 : Nat) : Int) by omega))) ?_
      refine sg_ rfl rfl rfl ?_
      refine FL.nil ?_
      exact ⟨i + 1, ⟨rfl, rfl, rfl, trivial⟩, ⟨rfl, hlt, hst.trans hcc⟩, by show cs.length - (i + 1) < cs.length - i; omega⟩
  rintro - w2 ⟨rfl, hn⟩
  refine FC.seq (FC.region ?_)
  refine sg_ rfl rfl rfl ?_
  refine FL.nilK ?_
  refine FC.ret ?_
  repeat with_reducible first | refine thn_ret ?_ | refine blk_ret ?_ | refine nog_ret ?_
  exact ret1 Try.results15 rfl ⟨by rw [hn], rfl⟩
set_option maxHeartbeats 1000000 in
theorem same_calls {v u : Value} (h : Rws w B v cs) (h2 : Rws w B u cs) (hn : cs.length < 4611686018427387904) (hl : ∀ c ∈ cs, c.length < 4611686018427387904) :
    Calls Try.prog 18 #[v, u] w fun e w' => e = .returned (.bool true) ∧ Fr (fun _ => False) w w' := by
  obtain ⟨A, cap, rfl, hc⟩ := h
  obtain ⟨A2, cap2, rfl, hc2⟩ := h2
  refine calls_of_FC (N := 53) (vs := [.slice A cs.length cap, .slice A2 cs.length cap2]) Try.func18 rfl Try.ntmps18 (Nat.le_of_ble_eq_true rfl) ?_
  refine FC.seq (FC.region ?_)
  refine sg_ rfl rfl rfl ?_
  refine FL.nilK ?_
  refine FC.seq ?_
  refine FC.seq (FC.region ?_)
  refine mv_ rfl rfl rfl ?_
  refine FL.pur rfl rfl (p_len rfl Try.underlying22) ?_
  refine mv_ rfl rfl rfl ?_
  refine FL.pur rfl rfl (p_len rfl Try.underlying22) ?_
  refine FL.pur rfl rfl (p_neq rfl rfl (show _ = !false by simp)) ?_
  refine FL.nilK ?_
  refine FC.cond_f rfl (FC.skip (thn_normal ?_))
  refine FC.cut (σ := Unit) (fun _ => []) (fun _ w2 => Fr (fun _ => False) w w2) ?_ ?_
  · refine FC.seq (FC.region ?_)
    refine sg_ rfl rfl rfl ?_
    refine FL.nilK ?_
    refine FC.block ?_
    refine FC.loop (σ := Nat) (fun i => [(0, .slice A cs.length cap), (1, .slice A2 cs.length cap2), (5, .int .i64 i)]) (fun i w2 => Fr (fun _ => False) w w2 ∧ i ≤ cs.length) (fun i => cs.length - i) 0 ⟨Fr.refl _ _, Nat.zero_le _⟩ ⟨rfl, rfl, rfl, trivial⟩ ?_
    rintro i w2 ⟨hf, hi⟩
    refine FC.seq ?_
    refine FC.seq (FC.region ?_)
    refine mv_ rfl rfl rfl ?_
    refine mv_ rfl rfl rfl ?_
    refine FL.pur rfl rfl (p_len rfl Try.underlying22) ?_
    refine FL.pur rfl rfl (p_lss rfl rfl rfl) ?_
    refine FL.nilK ?_
    refine FC.cond (decide ((i : Int) < (cs.length : Int))) rfl (fun hcc => FC.skip (thn_normal ?_)) (fun hcc => FC.exit ?_)
    rotate_left
    · exact thn_exit (thn_exit (blk_exit ⟨(), trivial, hf⟩))
    have hlt : i < cs.length := by have := of_decide_eq_true hcc; omega
    obtain ⟨ad, z, rfl, _, hcu, A3, cap3, rfl, hc3⟩ := hc i hlt
    obtain ⟨ad', z', rfl, _, hcu', A4, cap4, rfl, hc4⟩ := hc2 i hlt
    have hq := hl _ (mem_getD (d := []) hlt)
    obtain ⟨d, hd⟩ : ∃ d, d = cs.getD i [] := ⟨_, rfl⟩
    rw [← hd] at hcu hcu' hc3 hc4 hq
    refine FC.seq ?_
    refine FC.block ?_
    refine FC.seq ?_
    have hf := hf.drew
    have hSS := And.intro (hf.cell hcu fun h => h) (hf.cell hcu' fun h => h)
    refine FC.seq (FC.draw (fun w => w.cell? (ad.add (i : Int).toNat) = some (.slice A3 d.length cap3) ∧ w.cell? (ad'.add (i : Int).toNat) = some (.slice A4 d.length cap4)) [10] (bA 11 0) (by kernel_rfl) rfl rfl hSS ?_)
    refine FA.pur (i := 0) (bA 11 1) rfl (by kernel_rfl) rfl rfl (p_move rfl) ?_
    refine FA.pur (i := 1) (bA 11 3) rfl (by kernel_rfl) rfl rfl (p_move rfl) ?_
    refine FA.pur (i := 2) (bA 11 7) rfl (by kernel_rfl) rfl rfl (p_indexA rfl rfl Try.underlying22 inf41_eq inf41_size (by omega) (by omega)) ?_
    refine FA.pur (i := 5) (bA 11 39) rfl (by kernel_rfl) rfl rfl (p_move rfl) ?_
    refine FA.pur (i := 6) (bA 11 103) rfl (by kernel_rfl) rfl rfl (p_move rfl) ?_
    refine FA.pur (i := 7) (bA 11 231) rfl (by kernel_rfl) rfl rfl (p_indexA rfl rfl Try.underlying22 inf41_eq inf41_size (by omega) (by omega)) ?_
    refine FA.lod (i := 3) (bA 11 239) rfl (by kernel_rfl) rfl rfl hSS (fun _ hs => p_load rfl Try.underlying41 rfl hs.1) ?_
    refine FA.pur (i := 4) (bA 11 255) rfl (by kernel_rfl) rfl rfl (p_len rfl Try.underlying41) ?_
    refine FA.lod (i := 8) (bA 11 511) rfl (by kernel_rfl) rfl rfl hSS (fun _ hs => p_load rfl Try.underlying41 rfl hs.2) ?_
    refine FA.pur (i := 9) (bA 11 1023) rfl (by kernel_rfl) rfl rfl (p_len rfl Try.underlying41) ?_
    refine FA.pur (i := 10) (bA 11 2047) rfl (by kernel_rfl) rfl rfl (p_neq rfl rfl (show _ = !false by simp)) ?_
    refine FA.doneK (by kernel_rfl) ?_
    refine FC.cond_f rfl (FC.skip (thn_normal ?_))
    refine FC.seq (FC.region ?_)
    refine sg_ rfl rfl rfl ?_
    refine FL.nilK ?_
    refine FC.block ?_
    refine FC.loop (σ := Nat) (fun j => [(0, .slice (some ad) cs.length cap), (1, .slice (some ad') cs.length cap2), (5, .int .i64 i), (6, .int .i64 j)]) (fun j w2 => Fr (fun _ => False) w w2 ∧ j ≤ d.length) (fun j => d.length - j) 0 ⟨hf, Nat.zero_le _⟩ ⟨rfl, rfl, rfl, rfl, trivial⟩ ?_
    clear hSS hf
    rintro j w3 ⟨hf, hj⟩
    refine FC.seq ?_
    have hcu1 : w3.cell? (ad.add (i : Int).toNat) = _ := hf.cell hcu fun h => h
    refine FC.seq (FC.region ?_)
    refine mv_ rfl rfl rfl ?_
    refine mv_ rfl rfl rfl ?_
    refine mv_ rfl rfl rfl ?_
    refine FL.pur rfl rfl (p_indexA rfl rfl Try.underlying22 inf41_eq inf41_size (by omega) (by omega)) ?_
    refine FL.val _ _ rfl rfl (p_load rfl Try.underlying41 rfl hcu1) ?_
    refine FL.pur rfl rfl (p_len rfl Try.underlying41) ?_
    refine FL.pur rfl rfl (p_lss rfl rfl rfl) ?_
    refine FL.nilK ?_
    refine FC.cond (decide ((j : Int) < (d.length : Int))) rfl (fun hcc => FC.skip (thn_normal ?_)) (fun hcc => FC.exit ?_)
    rotate_left
    · refine thn_exit (thn_exit (blk_exit (blk_normal (thn_normal ?_))))
      refine FC.region ?_
      refine mv_ rfl rfl rfl ?_
      refine FL.pur rfl rfl (p_add rfl rfl ((wr (by omega) (by omega)).trans (show (i : Int) + 1 = ((i + 1 : Nat) : Int) by omega))) ?_
      refine sg_ rfl rfl rfl ?_
      refine FL.nil ?_
      exact ⟨i + 1, ⟨rfl, rfl, rfl, trivial⟩, ⟨hf, hlt⟩, by show cs.length - (i + 1) < cs.length - i; omega⟩
    have hjt : j < d.length := by have := of_decide_eq_true hcc; omega
    obtain ⟨ae, rfl, _, hcl⟩ := hc3 j hjt
    obtain ⟨ae', rfl, _, hcl'⟩ := hc4 j hjt
    refine FC.seq ?_
    refine FC.block ?_
    have hf := hf.drew
    have hSS := And.intro (And.intro (hf.cell hcu fun h => h) (hf.cell hcu' fun h => h)) (And.intro (hf.cell hcl fun h => h) (hf.cell hcl' fun h => h))
    refine FC.seq (FC.draw (fun w => (w.cell? (ad.add (i : Int).toNat) = some (.slice (some ae) d.length cap3) ∧ w.cell? (ad'.add (i : Int).toNat) = some (.slice (some ae') d.length cap4)) ∧ w.cell? (ae.add (j : Int).toNat) = some (.int .i64 (g d j)) ∧ w.cell? (ae'.add (j : Int).toNat) = some (.int .i64 (g d j))) [14] (bA 15 0) (by kernel_rfl) rfl rfl hSS ?_)
    refine FA.pur (i := 0) (bA 15 1) rfl (by kernel_rfl) rfl rfl (p_move rfl) ?_
    refine FA.pur (i := 1) (bA 15 3) rfl (by kernel_rfl) rfl rfl (p_move rfl) ?_
    refine FA.pur (i := 2) (bA 15 7) rfl (by kernel_rfl) rfl rfl (p_indexA rfl rfl Try.underlying22 inf41_eq inf41_size (by omega) (by omega)) ?_
    refine FA.pur (i := 4) (bA 15 23) rfl (by kernel_rfl) rfl rfl (p_move rfl) ?_
    refine FA.pur (i := 7) (bA 15 151) rfl (by kernel_rfl) rfl rfl (p_move rfl) ?_
    refine FA.pur (i := 8) (bA 15 407) rfl (by kernel_rfl) rfl rfl (p_move rfl) ?_
    refine FA.pur (i := 9) (bA 15 919) rfl (by kernel_rfl) rfl rfl (p_indexA rfl rfl Try.underlying22 inf41_eq inf41_size (by omega) (by omega)) ?_
    refine FA.pur (i := 11) (bA 15 2967) rfl (by kernel_rfl) rfl rfl (p_move rfl) ?_
    refine FA.lod (i := 3) (bA 15 2975) rfl (by kernel_rfl) rfl rfl hSS (fun _ hs => p_load rfl Try.underlying41 rfl hs.1.1) ?_
    refine FA.pur (i := 5) (bA 15 3007) rfl (by kernel_rfl) rfl rfl (p_indexA rfl rfl Try.underlying41 inf3_eq inf3_size (by omega) (by omega)) ?_
    refine FA.lod (i := 6) (bA 15 3071) rfl (by kernel_rfl) rfl rfl hSS (fun _ hs => p_load rfl Try.underlying3 rfl hs.2.1) ?_
    refine FA.lod (i := 10) (bA 15 4095) rfl (by kernel_rfl) rfl rfl hSS (fun _ hs => p_load rfl Try.underlying41 rfl hs.1.2) ?_
    refine FA.pur (i := 12) (bA 15 8191) rfl (by kernel_rfl) rfl rfl (p_indexA rfl rfl Try.underlying41 inf3_eq inf3_size (by omega) (by omega)) ?_
    refine FA.lod (i := 13) (bA 15 16383) rfl (by kernel_rfl) rfl rfl hSS (fun _ hs => p_load rfl Try.underlying3 rfl hs.2.2) ?_
    refine FA.pur (i := 14) (bA 15 32767) rfl (by kernel_rfl) rfl rfl (p_neq rfl rfl (show _ = !false by simp)) ?_
    refine FA.doneK (by kernel_rfl) ?_
    refine FC.cond_f rfl (FC.skip ?_)
    refine blk_normal (thn_normal ?_)
    refine FC.region ?_
    refine mv_ rfl rfl rfl ?_
    refine FL.pur rfl rfl (p_add rfl rfl ((wr (by omega) (by omega)).trans (show (j : Int) + 1 = ((j + 1 : Nat) : Int) by omega))) ?_
    refine sg_ rfl rfl rfl ?_
    refine FL.nil ?_
    exact ⟨j + 1, ⟨rfl, rfl, rfl, rfl, trivial⟩, ⟨hf, hjt⟩, by show d.length - (j + 1) < d.length - j; omega⟩
  rintro - w2 hf
  refine FC.seq (FC.region ?_)
  refine sg_ rfl rfl rfl ?_
  refine FL.nilK ?_
  refine FC.ret ?_
  repeat with_reducible first | refine thn_ret ?_ | refine blk_ret ?_ | refine nog_ret ?_
  exact ret1 Try.results18 rfl ⟨rfl, hf⟩
end
end Go.Proofs.Ytcahhbcehnbdkaa.Sv

/- Walks of Clone, watched, next, found, refuted. -/
namespace Go.Proofs.Ytcahhbcehnbdkaa.Sv
open Go.RowKit Go.Proofs.YtcahhbcehnbdkaaW.PrintWords Go.Proofs.YtcahhbcehnbdkaaW.PrintLast Go.Proofs.Ytcahhbcehnbdkaa.Eng
section
variable {w w' : World} {B g0 n : Nat} {s : S} {V : Lay} {v : Value} {c : List Int}
theorem p_eqlNil {P : Program} {ρ : Env} {dst : Option Tmp} {ty : TypeId} {pos : String} {af : Array Edge} {gd : Option (Nat × Bool)} {x y : Operand} {t t' e : TypeId} {a : Option Addr} {l k : Nat} {b : Bool} (hx : ev ρ x = some (.slice a l k)) (hy : ev ρ y = some (.slice none 0 0)) (hu : P.underlying t = some (.slice e)) (hr : a.isNone = b) : Pur P ρ ⟨dst, .binOp .eql t x y t', ty, pos, af, gd⟩ (.bool b) := fun w a ha => by
  subst hr
  simp [execOp, ha.ev hx, ha.ev hy, eqGuard, binOp, run_equal_slice_nil w t e _ l k hu]
theorem Own.set (h : Own w B g0 V v c) {b m cap : Nat} (hv : v = .slice (some ⟨b, 0, none⟩) m cap) (i : Nat) (hi : i < c.length) (x : Int) : Own (w.setCell ⟨b, i, none⟩ (.int .i64 x)) B g0 V v (c.set i x) := by
  have hm : m = c.length := by
    obtain ⟨A, cap', e, _⟩ := h.slice
    rw [hv] at e; injection e
  subst hm
  refine ⟨?_, h.apart⟩
  have := ownsRow_set h.own hv i hi (.int .i64 x)
  simpa [nums, List.map_set] using this
theorem Own.unfr (h : Own w B g0 V v c) {b m cap : Nat} (hv : v = .slice (some ⟨b, 0, none⟩) m cap) (i : Nat) : w.frozen? ⟨b, i, none⟩ = false := by
  rcases h.own.2 with ⟨e, h0⟩ | ⟨q, cap', cur, e, hb, hh, hc, hm, _, _⟩
  · rw [hv] at e; cases e
  · rw [hv] at e
    injection e with e _ _
    injection e with e
    injection e with e
    subst e
    exact blk_frozen hh i
/-- A copy of a clause of one's own. -/
theorem clone_calls (h : Own w B g0 V v c) (hc : 0 < c.length) (hlen : c.length < 1099511627776) :
    Calls Try.prog 53 #[v] w fun e w' => ∃ v1, e = .returned v1 ∧ w'.ownsRow w.heap.size 3 1 v1 c.length (nums .i64 c) ∧ Fr (fun _ => False) w w' := by
  obtain ⟨b, cap, rfl, _, _⟩ := h.form hc
  have hr : RowP w (fun _ => True) (.slice (some ⟨b, 0, none⟩) c.length cap) c := ⟨_, cap, rfl, fun i hi => ⟨_, rfl, trivial, by
    have := h.cell rfl (i : Int) (by omega) (by omega)
    rw [addr_add, Nat.zero_add]
    exact this⟩⟩
  refine calls_of_FC (N := 8) (vs := [.slice (some ⟨b, 0, none⟩) c.length cap]) Try.func53 rfl Try.ntmps53 (Nat.le_of_ble_eq_true rfl) ?_
  refine FC.seq (FC.region ?_)
  refine sg_ rfl rfl rfl ?_
  refine FL.nilK ?_
  refine FC.seq ?_
  refine FC.seq (FC.region ?_)
  refine mv_ rfl rfl rfl ?_
  refine FL.pur rfl rfl (p_eqlNil rfl rfl Try.underlying41 rfl) ?_
  refine FL.nilK ?_
  refine FC.cond_f rfl (FC.skip (thn_normal ?_))
  refine FC.seq (FC.region ?_)
  refine FL.val _ _ rfl rfl bld41_0 ?_
  refine mv_ rfl rfl rfl ?_
  refine FL.valG _ rfl rfl (copy_row hr hlen rfl rfl) ?_
  rintro v1 w1 ⟨h1, f1⟩
  refine sg_ rfl rfl rfl ?_
  refine FL.nilK ?_
  refine FC.ret ?_
  repeat with_reducible first | refine thn_ret ?_ | refine blk_ret ?_ | refine nog_ret ?_
  exact ret1 Try.results53 rfl ⟨v1, rfl, h1, f1⟩
set_option maxHeartbeats 2000000 in
theorem watched_calls (h : Srch w B g0 s V) (ho : Own w B g0 V v c) (lev : Int) (hn : s.level.length = n) (hn30 : n < 1073741824) (hl : ∀ l ∈ c, Lit n l) (hc : 0 < c.length) :
    Calls Try.prog 54 #[.pointer (some ⟨g0, 0, none⟩), v, .int .i64 lev] w fun e w' => e = .returned (.tuple #[]) ∧ ∃ c', WatR s lev c c' ∧ Own w' B g0 V v c' ∧ Fr (fun k => v.ownBlock = some k) w w' := by
  obtain ⟨b, cap, rfl, _, hm⟩ := ho.form hc
  simp only [maxLen] at hm
  have hn0 : 0 < n := by have := hl _ (g_mem (d := c) (t := 0) hc); obtain ⟨h1, h2⟩ := this; omega
  refine calls_of_FC (N := 43) (vs := [.pointer (some ⟨g0, 0, none⟩), .slice (some ⟨b, 0, none⟩) c.length cap, .int .i64 lev]) Try.func54 rfl Try.ntmps54 (Nat.le_of_ble_eq_true rfl) ?_
  refine FC.seq (FC.region ?_)
  refine sg_ rfl rfl rfl ?_
  refine FL.nilK ?_
  refine FC.block ?_
  refine FC.loop (σ := Nat) (fun k => [(0, .pointer (some ⟨g0, 0, none⟩)), (1, .slice (some ⟨b, 0, none⟩) c.length cap), (2, .int .i64 lev), (6, .int .i64 k)]) (fun k w2 => Fr (fun _ => False) w w2 ∧ 1 ≤ k ∧ (∀ q, 1 ≤ q → q < k → q < c.length → levA s (g c q) ≠ lev)) (fun k => c.length - k) 1 ⟨Fr.refl _ _, Nat.le_refl _, fun q h1 h2 => by omega⟩ ⟨rfl, rfl, rfl, rfl, trivial⟩ ?_
  rintro k w2 ⟨hf, hk, hno⟩
  refine FC.seq ?_
  refine FC.seq (FC.region ?_)
  refine mv_ rfl rfl rfl ?_
  refine mv_ rfl rfl rfl ?_
  refine FL.pur rfl rfl (p_len rfl Try.underlying41) ?_
  refine FL.pur rfl rfl (p_lss rfl rfl rfl) ?_
  refine FL.nilK ?_
  refine FC.cond (decide ((k : Int) < (c.length : Int))) rfl (fun hcc => FC.skip (thn_normal ?_)) (fun hcc => FC.exit ?_)
  rotate_left
  · have hge : ¬ (k : Int) < (c.length : Int) := of_decide_eq_false hcc
    refine thn_exit (thn_exit (blk_exit ?_))
    have ho2 : Own w2 B g0 V (.slice (some ⟨b, 0, none⟩) c.length cap) c := ⟨ownsRow_same ho.own fun q hq => hf.block q (ho.lt hq) fun h => h, ho.apart⟩
    exact end0 Try.results54 ⟨rfl, c, .inr ⟨fun q h1 h2 => hno q h1 (by omega) h2, rfl⟩, ho2, hf.mono fun _ h => h.elim⟩
  have hlt : k < c.length := by have := of_decide_eq_true hcc; omega
  have hf := hf.drew
  have ho2 : Own w2.drew B g0 V (.slice (some ⟨b, 0, none⟩) c.length cap) c := ⟨ownsRow_same ho.own fun q hq => hf.block q (ho.lt hq) fun h => h, ho.apart⟩
  have h2 := h.fr hf fun _ h => h.elim
  have hlk := hl _ (g_mem hlt)
  have hav0 := av_nn (g c k)
  have hav1 := av_ltI hlk
  obtain ⟨hL1, hL2⟩ := hlk
  obtain ⟨bl, cl', hvl, _, _⟩ := h2.formOf .level n (by simp [C, nums, hn]) hn0
  have hce : w2.drew.cell? ⟨b, (k : Int).toNat, none⟩ = some (.int .i64 (g c k)) := ho2.cell rfl (k : Int) (by omega) (by omega)
  have hlc := h2.cell .level hvl (av (g c k)).toNat (v := .int .i64 (levA s (g c k))) (nums_at .i64 s.level (av (g c k)) hav0 (by rw [hn]; exact hav1))
  have hS := And.intro (cellEq h2.f_level hvl) (And.intro hce hlc)
  refine FC.seq ?_
  refine FC.block ?_
  refine FC.seq (FC.draw (fun w => w.cell? ⟨g0, 4, none⟩ = some (.slice (some ⟨bl, 0, none⟩) n cl') ∧ w.cell? ⟨b, (k : Int).toNat, none⟩ = some (.int .i64 (g c k)) ∧ w.cell? ⟨bl, (av (g c k)).toNat, none⟩ = some (.int .i64 (levA s (g c k)))) [] (bA 18 0) (by kernel_rfl) rfl rfl hS ?_)
  refine FA.pur (i := 0) (bA 18 1) rfl (by kernel_rfl) rfl rfl (p_move rfl) ?_
  refine FA.pur (i := 1) (bA 18 3) rfl (by kernel_rfl) rfl rfl (p_nilCheck rfl) ?_
  refine FA.pur (i := 2) (bA 18 7) rfl (by kernel_rfl) rfl rfl (fld67_4 rfl) ?_
  refine FA.pur (i := 4) (bA 18 23) rfl (by kernel_rfl) rfl rfl (p_move rfl) ?_
  refine FA.pur (i := 5) (bA 18 55) rfl (by kernel_rfl) rfl rfl (p_move rfl) ?_
  refine FA.pur (i := 6) (bA 18 119) rfl (by kernel_rfl) rfl rfl (idx41 rfl rfl (by omega) (by omega)) ?_
  refine FA.pur (i := 8) (bA 18 375) rfl (by kernel_rfl) rfl rfl (p_move rfl) ?_
  refine FA.pur (i := 9) (bA 18 887) rfl (by kernel_rfl) rfl rfl (p_move rfl) ?_
  refine FA.pur (i := 10) (bA 18 1911) rfl (by kernel_rfl) rfl rfl (idx41 rfl rfl (by omega) (by omega)) ?_
  refine FA.pur (i := 16) (bA 18 67447) rfl (by kernel_rfl) rfl rfl (p_move rfl) ?_
  refine FA.lod (i := 3) (bA 18 67455) rfl (by kernel_rfl) rfl rfl hS (fun _ hs => p_load rfl Try.underlying41 rfl hs.1) ?_
  refine FA.lod (i := 7) (bA 18 67583) rfl (by kernel_rfl) rfl rfl hS (fun _ hs => p_load rfl Try.underlying3 rfl hs.2.1) ?_
  refine FA.lod (i := 11) (bA 18 69631) rfl (by kernel_rfl) rfl rfl hS (fun _ hs => p_load rfl Try.underlying3 rfl hs.2.1) ?_
  refine FA.pur (i := 12) (bA 18 73727) rfl (by kernel_rfl) rfl rfl (p_neg rfl (wr (by omega) (by omega))) ?_
  refine FA.pur (i := 13) (bA 18 81919) rfl (by kernel_rfl) rfl rfl (p_max rfl rfl (av_max (g c k))) ?_
  refine FA.pur (i := 14) (bA 18 98303) rfl (by kernel_rfl) rfl rfl (idx41 rfl rfl (by omega) (by omega)) ?_
  refine FA.lod (i := 15) (bA 18 131071) rfl (by kernel_rfl) rfl rfl hS (fun _ hs => p_load rfl Try.underlying3 rfl hs.2.2) ?_
  refine FA.pur (i := 17) (bA 18 262143) rfl (by kernel_rfl) rfl rfl (p_eql rfl rfl rfl) ?_
  refine FA.doneK (by kernel_rfl) ?_
  by_cases he : levA s (g c k) = lev
  · refine FC.cond_t (by rw [show decide (levA s (g c k) = lev) = true from decide_eq_true he]; rfl) ?_
    have hf := hf.drew
    have ho3 : Own w2.drew.drew B g0 V (.slice (some ⟨b, 0, none⟩) c.length cap) c := ⟨ownsRow_same ho.own fun q hq => hf.block q (ho.lt hq) fun h => h, ho.apart⟩
    have hce : w2.drew.drew.cell? ⟨b, (k : Int).toNat, none⟩ = some (.int .i64 (g c k)) := ho3.cell rfl (k : Int) (by omega) (by omega)
    have hc1 : w2.drew.drew.cell? ⟨b, (1 : Int).toNat, none⟩ = some (.int .i64 (g c 1)) := ho3.cell rfl (1 : Int) (by omega) (by omega)
    have ho4 := ho3.set rfl (1 : Int).toNat (by show 1 < c.length; omega) (g c k)
    have hce4 : ((w2.drew.drew.setCell ⟨b, (1 : Int).toNat, none⟩ (.int .i64 (g c k)))).cell? ⟨b, (k : Int).toNat, none⟩ = some (.int .i64 (rd (c.set (1 : Int).toNat (g c k)) k)) := ho4.cell rfl (k : Int) (by omega) (by rw [List.length_set]; omega)
    have ho5 := ho4.set rfl (k : Int).toNat (by rw [List.length_set]; show k < c.length; omega) (g c 1)
    have hS := And.intro hce hc1
    refine FC.seq (FC.draw (fun w => w.cell? ⟨b, (k : Int).toNat, none⟩ = some (.int .i64 (g c k)) ∧ w.cell? ⟨b, (1 : Int).toNat, none⟩ = some (.int .i64 (g c 1))) [11, 13] (bA 14 0) (by kernel_rfl) rfl rfl hS ?_)
    refine FA.pur (i := 0) (bA 14 1) rfl (by kernel_rfl) rfl rfl (p_move rfl) ?_
    refine FA.pur (i := 1) (bA 14 3) rfl (by kernel_rfl) rfl rfl (p_move rfl) ?_
    refine FA.pur (i := 2) (bA 14 7) rfl (by kernel_rfl) rfl rfl (p_move rfl) ?_
    refine FA.pur (i := 3) (bA 14 15) rfl (by kernel_rfl) rfl rfl (p_move rfl) ?_
    refine FA.pur (i := 4) (bA 14 31) rfl (by kernel_rfl) rfl rfl (p_move rfl) ?_
    refine FA.pur (i := 5) (bA 14 63) rfl (by kernel_rfl) rfl rfl (idx41 rfl rfl (by omega) (by omega)) ?_
    refine FA.pur (i := 7) (bA 14 191) rfl (by kernel_rfl) rfl rfl (p_move rfl) ?_
    refine FA.pur (i := 8) (bA 14 447) rfl (by kernel_rfl) rfl rfl (idx41 rfl rfl (by omega) (by omega)) ?_
    refine FA.lod (i := 6) (bA 14 511) rfl (by kernel_rfl) rfl rfl hS (fun _ hs => p_load rfl Try.underlying3 rfl hs.1) ?_
    refine FA.lod (i := 9) (bA 14 1023) rfl (by kernel_rfl) rfl rfl hS (fun _ hs => p_load rfl Try.underlying3 rfl hs.2) ?_
    refine FA.pur (i := 10) (bA 14 2047) rfl (by kernel_rfl) rfl rfl (idx41 rfl rfl (by omega) (by omega)) ?_
    refine FA.lastS (i := 11) _ (bA 14 4095) rfl (by kernel_rfl) (by decide) rfl (st3 rfl rfl rfl hc1 (ho3.unfr rfl _)) ?_
    refine FA.pur (i := 12) (bA 14 8191) rfl (by kernel_rfl) rfl rfl (idx41 rfl rfl (by omega) (by omega)) ?_
    refine FA.lastS (i := 13) _ (bA 14 16383) rfl (by kernel_rfl) (by decide) rfl (st3 rfl rfl rfl hce4 (ho4.unfr rfl _)) ?_
    refine FA.doneK (by kernel_rfl) ?_
    refine FC.ret ?_
    repeat with_reducible first | refine thn_ret ?_ | refine blk_ret ?_ | refine nog_ret ?_
    have hfs : ∀ (w3 : World) (i : Nat) (x : Value), Fr (fun q => (Value.slice (some ⟨b, 0, none⟩) c.length cap).ownBlock = some q) w3 (w3.setCell ⟨b, i, none⟩ x) := fun w3 i x => ⟨rfl, rfl, rfl, by rw [setCell_size]; exact Nat.le_refl _, fun q _ hq => Below.heap_setCell w3 _ x q fun e => hq (by rw [e]; rfl)⟩
    refine ret0 Try.results54 ⟨rfl, swp c 1 k, .inl ⟨k, hk, hlt, he, rfl⟩, ?_, ((hf.mono fun _ h => h.elim).trans (hfs _ _ _) fun _ h => .inl h).trans (hfs _ _ _) fun _ h => .inl h⟩
    have e : swp c 1 (k : Int) = (c.set (1 : Int).toNat (g c k)).set (k : Int).toNat (g c 1) := rfl
    rw [e]
    exact ho5
  · refine FC.cond_f (by rw [show decide (levA s (g c k) = lev) = false from decide_eq_false he]; rfl) (FC.skip ?_)
    refine blk_normal (thn_normal ?_)
    refine FC.region ?_
    refine mv_ rfl rfl rfl ?_
    refine FL.pur rfl rfl (p_add rfl rfl ((wr (by omega) (by omega)).trans (show (k : Int) + 1 = ((k + 1 : Nat) : Int) by omega))) ?_
    refine sg_ rfl rfl rfl ?_
    refine FL.nil ?_
    exact ⟨k + 1, ⟨rfl, rfl, rfl, rfl, trivial⟩, ⟨hf, by omega, fun q h1 h2 h3 => by
      by_cases e : q = k
      · rw [e]; exact he
      · exact hno q h1 (by omega) h3⟩, by show c.length - (k + 1) < c.length - k; omega⟩
end
end Go.Proofs.Ytcahhbcehnbdkaa.Sv

/- Walks of next, found, refuted. -/
namespace Go.Proofs.Ytcahhbcehnbdkaa.Sv
open Go.RowKit Go.Proofs.YtcahhbcehnbdkaaW.PrintWords Go.Proofs.YtcahhbcehnbdkaaW.PrintLast Go.Proofs.Ytcahhbcehnbdkaa.Eng
section
variable {w w' : World} {B g0 n : Nat} {s : S} {V : Lay} {v : Value} {c : List Int}
def NextR (s : S) (n : Nat) (r : Int) : Prop := (r = 0 ∧ ∀ v : Nat, 1 ≤ v → v < n → rd s.value v ≠ 0) ∨ (1 ≤ r ∧ r < n ∧ rd s.value r = 0)
set_option maxHeartbeats 4000000 in
theorem next_calls (h : Srch w B g0 s V) (hv : s.value.length = n) (hac : s.active.length = n) (hat : s.atoms = (n : Int) - 1) (hn : 0 < n) (hn30 : n < 1073741824) :
    Calls Try.prog 55 #[.pointer (some ⟨g0, 0, none⟩)] w fun e w' => ∃ r : Int, e = .returned (.int .i64 r) ∧ NextR s n r ∧ Fr (fun _ => False) w w' := by
  refine calls_of_FC (N := 44) (vs := [.pointer (some ⟨g0, 0, none⟩)]) Try.func55 rfl Try.ntmps55 (Nat.le_of_ble_eq_true rfl) ?_
  refine FC.seq (FC.region ?_)
  refine sg_ rfl rfl rfl ?_
  refine FL.nilK ?_
  refine FC.seq (FC.region ?_)
  refine sg_ rfl rfl rfl ?_
  refine FL.nilK ?_
  refine FC.cut (σ := Nat) (fun b => [(3, .int .i64 b)]) (fun b w2 => Fr (fun _ => False) w w2 ∧ NextR s n b) ?_ ?_
  · refine FC.seq (FC.region ?_)
    refine sg_ rfl rfl rfl ?_
    refine FL.nilK ?_
    refine FC.block ?_
    refine FC.loop (σ := Nat × Nat) (fun x => [(0, .pointer (some ⟨g0, 0, none⟩)), (3, .int .i64 x.1), (4, .int .i64 x.2)]) (fun x w2 => Fr (fun _ => False) w w2 ∧ 1 ≤ x.2 ∧ x.2 ≤ n ∧ x.1 < n ∧ ((x.1 = 0 ∧ ∀ q : Nat, 1 ≤ q → q < x.2 → rd s.value q ≠ 0) ∨ (1 ≤ x.1 ∧ rd s.value x.1 = 0))) (fun x => n - x.2) (0, 1) ⟨Fr.refl _ _, Nat.le_refl _, hn, hn, .inl ⟨rfl, fun q h1 h2 => by omega⟩⟩ ⟨rfl, rfl, rfl, trivial⟩ ?_
    rintro ⟨b, k⟩ w2 ⟨hf, hk1, hk2, hb, hI⟩
    simp only at hf hk1 hk2 hb hI ⊢
    have h2 := h.fr hf fun _ h => h.elim
    refine FC.seq ?_
    refine FC.seq (FC.region ?_)
    refine mv_ rfl rfl rfl ?_
    refine mv_ rfl rfl rfl ?_
    refine FL.pur rfl rfl (p_nilCheck rfl) ?_
    refine FL.pur rfl rfl (fld67_0 rfl) ?_
    refine FL.val _ _ rfl rfl (p_load rfl Try.underlying3 rfl h2.f_atoms) ?_
    refine FL.pur rfl rfl (p_leq rfl rfl rfl) ?_
    refine FL.nilK ?_
    refine FC.cond (decide ((k : Int) ≤ s.atoms)) rfl (fun hcc => FC.skip (thn_normal ?_)) (fun hcc => FC.exit ?_)
    rotate_left
    · have hge : ¬ (k : Int) ≤ s.atoms := of_decide_eq_false hcc
      refine thn_exit (thn_exit (blk_exit ⟨b, ⟨rfl, trivial⟩, hf, ?_⟩))
      rcases hI with ⟨e, hI⟩ | ⟨e, hI⟩
      · exact .inl ⟨by rw [e]; rfl, fun q h1 h2 => hI q h1 (by omega)⟩
      · exact .inr ⟨by omega, by omega, hI⟩
    have hkn : k < n := by have := of_decide_eq_true hcc; omega
    have h3 := h2.drew
    have hf := hf.drew
    obtain ⟨bv, cv, hvv, _, _⟩ := h3.formOf .value n (by simp [C, nums, hv]) hn
    obtain ⟨ba, ca, hva, _, _⟩ := h3.formOf .active n (by simp [C, nums, hac]) hn
    have hvc := h3.cell .value hvv (k : Int).toNat (v := .int .i8 (rd s.value k)) (nums_at .i8 s.value k (by omega) (by omega))
    have hac1 := h3.cell .active hva (k : Int).toNat (v := .int .i64 (rd s.active k)) (nums_at .i64 s.active k (by omega) (by omega))
    have hac2 := h3.cell .active hva (b : Int).toNat (v := .int .i64 (rd s.active b)) (nums_at .i64 s.active b (by omega) (by omega))
    have hS := And.intro (And.intro (cellEq h3.f_value hvv) hvc) (And.intro (cellEq h3.f_active hva) (And.intro hac1 hac2))
    refine FC.seq ?_
    refine FC.block ?_
    by_cases c1 : rd s.value k = 0
    rotate_left
    · refine FC.seq (FC.draw (fun w => (w.cell? ⟨g0, 3, none⟩ = some (.slice (some ⟨bv, 0, none⟩) n cv) ∧ w.cell? ⟨bv, (k : Int).toNat, none⟩ = some (.int .i8 (rd s.value k))) ∧ w.cell? ⟨g0, 6, none⟩ = some (.slice (some ⟨ba, 0, none⟩) n ca) ∧ w.cell? ⟨ba, (k : Int).toNat, none⟩ = some (.int .i64 (rd s.active k)) ∧ w.cell? ⟨ba, (b : Int).toNat, none⟩ = some (.int .i64 (rd s.active b))) [] (bA 29 0) (by kernel_rfl) rfl rfl hS ?_)
      refine FA.pur (i := 0) (bA 29 1) rfl (by kernel_rfl) rfl rfl (p_move rfl) ?_
      refine FA.pur (i := 1) (bA 29 3) rfl (by kernel_rfl) rfl rfl (p_nilCheck rfl) ?_
      refine FA.pur (i := 2) (bA 29 7) rfl (by kernel_rfl) rfl rfl (fld67_3 rfl) ?_
      refine FA.pur (i := 4) (bA 29 23) rfl (by kernel_rfl) rfl rfl (p_move rfl) ?_
      refine FA.lod (i := 3) (bA 29 31) rfl (by kernel_rfl) rfl rfl hS (fun _ hs => p_load rfl Try.underlying65 rfl hs.1.1) ?_
      refine FA.pur (i := 5) (bA 29 63) rfl (by kernel_rfl) rfl rfl (idx65 rfl rfl (by omega) (by omega)) ?_
      refine FA.lod (i := 6) (bA 29 127) rfl (by kernel_rfl) rfl rfl hS (fun _ hs => p_load rfl Try.underlying53 rfl hs.1.2) ?_
      refine FA.pur (i := 7) (bA 29 255) rfl (by kernel_rfl) rfl rfl (p_eql rfl rfl (decide_eq_false c1)) ?_
      refine FA.pur (i := 8) (bA 29 511) rfl (by kernel_rfl) rfl rfl (p_move rfl) ?_
      refine FA.off (i := 9) (bA 29 1023) rfl (by kernel_rfl) rfl rfl ?_
      refine FA.off (i := 10) (bA 29 2047) rfl (by kernel_rfl) rfl rfl ?_
      refine FA.off (i := 11) (bA 29 4095) rfl (by kernel_rfl) rfl rfl ?_
      refine FA.off (i := 12) (bA 29 8191) rfl (by kernel_rfl) rfl rfl ?_
      refine FA.off (i := 13) (bA 29 16383) rfl (by kernel_rfl) rfl rfl ?_
      refine FA.off (i := 14) (bA 29 32767) rfl (by kernel_rfl) rfl rfl ?_
      refine FA.off (i := 15) (bA 29 65535) rfl (by kernel_rfl) rfl rfl ?_
      refine FA.off (i := 16) (bA 29 131071) rfl (by kernel_rfl) rfl rfl ?_
      refine FA.off (i := 17) (bA 29 262143) rfl (by kernel_rfl) rfl rfl ?_
      refine FA.off (i := 18) (bA 29 524287) rfl (by kernel_rfl) rfl rfl ?_
      refine FA.off (i := 19) (bA 29 1048575) rfl (by kernel_rfl) rfl rfl ?_
      refine FA.off (i := 20) (bA 29 2097151) rfl (by kernel_rfl) rfl rfl ?_
      refine FA.off (i := 21) (bA 29 4194303) rfl (by kernel_rfl) rfl rfl ?_
      refine FA.off (i := 22) (bA 29 8388607) rfl (by kernel_rfl) rfl rfl ?_
      refine FA.off (i := 23) (bA 29 16777215) rfl (by kernel_rfl) rfl rfl ?_
      refine FA.off (i := 24) (bA 29 33554431) rfl (by kernel_rfl) rfl rfl ?_
      refine FA.off (i := 25) (bA 29 67108863) rfl (by kernel_rfl) rfl rfl ?_
      refine FA.off (i := 26) (bA 29 134217727) rfl (by kernel_rfl) rfl rfl ?_
      refine FA.off (i := 27) (bA 29 268435455) rfl (by kernel_rfl) rfl rfl ?_
      refine FA.pur (i := 28) (bA 29 536870911) rfl (by kernel_rfl) rfl rfl (p_pick_f rfl rfl) ?_
      refine FA.doneK (by kernel_rfl) ?_
      refine FC.cond_f rfl (FC.skip ?_)
      refine blk_normal (thn_normal ?_)
      refine FC.region ?_
      refine mv_ rfl rfl rfl ?_
      refine FL.pur rfl rfl (p_add rfl rfl ((wr (by omega) (by omega)).trans (show (k : Int) + 1 = ((k + 1 : Nat) : Int) by omega))) ?_
      refine sg_ rfl rfl rfl ?_
      refine FL.nil ?_
      exact ⟨(b, k + 1), ⟨rfl, rfl, rfl, trivial⟩, ⟨hf, by omega, hkn, hb, hI.imp (fun ⟨e, hI⟩ => ⟨e, fun q h1 h2 => by
        by_cases e : q = k
        · rw [e]; exact c1
        · exact hI q h1 (by omega)⟩) id⟩, by show n - (k + 1) < n - k; omega⟩
    by_cases c2 : b = 0
    · refine FC.seq (FC.draw (fun w => (w.cell? ⟨g0, 3, none⟩ = some (.slice (some ⟨bv, 0, none⟩) n cv) ∧ w.cell? ⟨bv, (k : Int).toNat, none⟩ = some (.int .i8 (rd s.value k))) ∧ w.cell? ⟨g0, 6, none⟩ = some (.slice (some ⟨ba, 0, none⟩) n ca) ∧ w.cell? ⟨ba, (k : Int).toNat, none⟩ = some (.int .i64 (rd s.active k)) ∧ w.cell? ⟨ba, (b : Int).toNat, none⟩ = some (.int .i64 (rd s.active b))) [] (bA 29 0) (by kernel_rfl) rfl rfl hS ?_)
      refine FA.pur (i := 0) (bA 29 1) rfl (by kernel_rfl) rfl rfl (p_move rfl) ?_
      refine FA.pur (i := 1) (bA 29 3) rfl (by kernel_rfl) rfl rfl (p_nilCheck rfl) ?_
      refine FA.pur (i := 2) (bA 29 7) rfl (by kernel_rfl) rfl rfl (fld67_3 rfl) ?_
      refine FA.pur (i := 4) (bA 29 23) rfl (by kernel_rfl) rfl rfl (p_move rfl) ?_
      refine FA.lod (i := 3) (bA 29 31) rfl (by kernel_rfl) rfl rfl hS (fun _ hs => p_load rfl Try.underlying65 rfl hs.1.1) ?_
      refine FA.pur (i := 5) (bA 29 63) rfl (by kernel_rfl) rfl rfl (idx65 rfl rfl (by omega) (by omega)) ?_
      refine FA.lod (i := 6) (bA 29 127) rfl (by kernel_rfl) rfl rfl hS (fun _ hs => p_load rfl Try.underlying53 rfl hs.1.2) ?_
      refine FA.pur (i := 7) (bA 29 255) rfl (by kernel_rfl) rfl rfl (p_eql rfl rfl (decide_eq_true c1)) ?_
      refine FA.pur (i := 8) (bA 29 511) rfl (by kernel_rfl) rfl rfl (p_move rfl) ?_
      refine FA.pur (i := 9) (bA 29 1023) rfl (by kernel_rfl) rfl rfl (p_move rfl) ?_
      refine FA.pur (i := 10) (bA 29 2047) rfl (by kernel_rfl) rfl rfl (p_eql rfl rfl (decide_eq_true (by omega))) ?_
      refine FA.pur (i := 11) (bA 29 4095) rfl (by kernel_rfl) rfl rfl (p_move rfl) ?_
      refine FA.off (i := 12) (bA 29 8191) rfl (by kernel_rfl) rfl rfl ?_
      refine FA.off (i := 13) (bA 29 16383) rfl (by kernel_rfl) rfl rfl ?_
      refine FA.off (i := 14) (bA 29 32767) rfl (by kernel_rfl) rfl rfl ?_
      refine FA.off (i := 15) (bA 29 65535) rfl (by kernel_rfl) rfl rfl ?_
      refine FA.off (i := 16) (bA 29 131071) rfl (by kernel_rfl) rfl rfl ?_
      refine FA.off (i := 17) (bA 29 262143) rfl (by kernel_rfl) rfl rfl ?_
      refine FA.off (i := 18) (bA 29 524287) rfl (by kernel_rfl) rfl rfl ?_
      refine FA.off (i := 19) (bA 29 1048575) rfl (by kernel_rfl) rfl rfl ?_
      refine FA.off (i := 20) (bA 29 2097151) rfl (by kernel_rfl) rfl rfl ?_
      refine FA.off (i := 21) (bA 29 4194303) rfl (by kernel_rfl) rfl rfl ?_
      refine FA.off (i := 22) (bA 29 8388607) rfl (by kernel_rfl) rfl rfl ?_
      refine FA.off (i := 23) (bA 29 16777215) rfl (by kernel_rfl) rfl rfl ?_
      refine FA.off (i := 24) (bA 29 33554431) rfl (by kernel_rfl) rfl rfl ?_
      refine FA.off (i := 25) (bA 29 67108863) rfl (by kernel_rfl) rfl rfl ?_
      refine FA.off (i := 26) (bA 29 134217727) rfl (by kernel_rfl) rfl rfl ?_
      refine FA.pur (i := 27) (bA 29 268435455) rfl (by kernel_rfl) rfl rfl (p_pick_t rfl rfl) ?_
      refine FA.pur (i := 28) (bA 29 536870911) rfl (by kernel_rfl) rfl rfl (p_pick_t rfl rfl) ?_
      refine FA.doneK (by kernel_rfl) ?_
      refine FC.cond_t rfl ?_
      refine FC.region ?_
      refine mv_ rfl rfl rfl ?_
      refine sg_ rfl rfl rfl ?_
      refine FL.nil ?_
      refine blk_normal (thn_normal ?_)
      refine FC.region ?_
      refine mv_ rfl rfl rfl ?_
      refine FL.pur rfl rfl (p_add rfl rfl ((wr (by omega) (by omega)).trans (show (k : Int) + 1 = ((k + 1 : Nat) : Int) by omega))) ?_
      refine sg_ rfl rfl rfl ?_
      refine FL.nil ?_
      exact ⟨(k, k + 1), ⟨rfl, rfl, rfl, trivial⟩, ⟨hf, by omega, hkn, hkn, .inr ⟨hk1, c1⟩⟩, by show n - (k + 1) < n - k; omega⟩
    · refine FC.seq (FC.draw (fun w => (w.cell? ⟨g0, 3, none⟩ = some (.slice (some ⟨bv, 0, none⟩) n cv) ∧ w.cell? ⟨bv, (k : Int).toNat, none⟩ = some (.int .i8 (rd s.value k))) ∧ w.cell? ⟨g0, 6, none⟩ = some (.slice (some ⟨ba, 0, none⟩) n ca) ∧ w.cell? ⟨ba, (k : Int).toNat, none⟩ = some (.int .i64 (rd s.active k)) ∧ w.cell? ⟨ba, (b : Int).toNat, none⟩ = some (.int .i64 (rd s.active b))) [] (bA 29 0) (by kernel_rfl) rfl rfl hS ?_)
      refine FA.pur (i := 0) (bA 29 1) rfl (by kernel_rfl) rfl rfl (p_move rfl) ?_
      refine FA.pur (i := 1) (bA 29 3) rfl (by kernel_rfl) rfl rfl (p_nilCheck rfl) ?_
      refine FA.pur (i := 2) (bA 29 7) rfl (by kernel_rfl) rfl rfl (fld67_3 rfl) ?_
      refine FA.pur (i := 4) (bA 29 23) rfl (by kernel_rfl) rfl rfl (p_move rfl) ?_
      refine FA.lod (i := 3) (bA 29 31) rfl (by kernel_rfl) rfl rfl hS (fun _ hs => p_load rfl Try.underlying65 rfl hs.1.1) ?_
      refine FA.pur (i := 5) (bA 29 63) rfl (by kernel_rfl) rfl rfl (idx65 rfl rfl (by omega) (by omega)) ?_
      refine FA.lod (i := 6) (bA 29 127) rfl (by kernel_rfl) rfl rfl hS (fun _ hs => p_load rfl Try.underlying53 rfl hs.1.2) ?_
      refine FA.pur (i := 7) (bA 29 255) rfl (by kernel_rfl) rfl rfl (p_eql rfl rfl (decide_eq_true c1)) ?_
      refine FA.pur (i := 8) (bA 29 511) rfl (by kernel_rfl) rfl rfl (p_move rfl) ?_
      refine FA.pur (i := 9) (bA 29 1023) rfl (by kernel_rfl) rfl rfl (p_move rfl) ?_
      refine FA.pur (i := 10) (bA 29 2047) rfl (by kernel_rfl) rfl rfl (p_eql rfl rfl (decide_eq_false (by omega))) ?_
      refine FA.pur (i := 11) (bA 29 4095) rfl (by kernel_rfl) rfl rfl (p_move rfl) ?_
      refine FA.pur (i := 12) (bA 29 8191) rfl (by kernel_rfl) rfl rfl (p_move rfl) ?_
      refine FA.pur (i := 13) (bA 29 16383) rfl (by kernel_rfl) rfl rfl (p_nilCheck rfl) ?_
      refine FA.pur (i := 14) (bA 29 32767) rfl (by kernel_rfl) rfl rfl (fld67_6 rfl) ?_
      refine FA.pur (i := 16) (bA 29 98303) rfl (by kernel_rfl) rfl rfl (p_move rfl) ?_
      refine FA.pur (i := 19) (bA 29 622591) rfl (by kernel_rfl) rfl rfl (p_move rfl) ?_
      refine FA.pur (i := 20) (bA 29 1671167) rfl (by kernel_rfl) rfl rfl (p_nilCheck rfl) ?_
      refine FA.pur (i := 21) (bA 29 3768319) rfl (by kernel_rfl) rfl rfl (fld67_6 rfl) ?_
      refine FA.pur (i := 23) (bA 29 12156927) rfl (by kernel_rfl) rfl rfl (p_move rfl) ?_
      refine FA.lod (i := 15) (bA 29 12189695) rfl (by kernel_rfl) rfl rfl hS (fun _ hs => p_load rfl Try.underlying41 rfl hs.2.1) ?_
      refine FA.pur (i := 17) (bA 29 12320767) rfl (by kernel_rfl) rfl rfl (idx41 rfl rfl (by omega) (by omega)) ?_
      refine FA.lod (i := 18) (bA 29 12582911) rfl (by kernel_rfl) rfl rfl hS (fun _ hs => p_load rfl Try.underlying3 rfl hs.2.2.1) ?_
      refine FA.lod (i := 22) (bA 29 16777215) rfl (by kernel_rfl) rfl rfl hS (fun _ hs => p_load rfl Try.underlying41 rfl hs.2.1) ?_
      refine FA.pur (i := 24) (bA 29 33554431) rfl (by kernel_rfl) rfl rfl (idx41 rfl rfl (by omega) (by omega)) ?_
      refine FA.lod (i := 25) (bA 29 67108863) rfl (by kernel_rfl) rfl rfl hS (fun _ hs => p_load rfl Try.underlying3 rfl hs.2.2.2) ?_
      refine FA.pur (i := 26) (bA 29 134217727) rfl (by kernel_rfl) rfl rfl (p_gtr rfl rfl rfl) ?_
      refine FA.pur (i := 27) (bA 29 268435455) rfl (by kernel_rfl) rfl rfl (p_pick_f rfl rfl) ?_
      refine FA.pur (i := 28) (bA 29 536870911) rfl (by kernel_rfl) rfl rfl (p_pick_t rfl rfl) ?_
      refine FA.doneK (by kernel_rfl) ?_
      refine FC.cond (decide (rd s.active b < rd s.active k)) rfl (fun _ => ?_) (fun _ => FC.skip ?_)
      · refine FC.region ?_
        refine mv_ rfl rfl rfl ?_
        refine sg_ rfl rfl rfl ?_
        refine FL.nil ?_
        refine blk_normal (thn_normal ?_)
        refine FC.region ?_
        refine mv_ rfl rfl rfl ?_
        refine FL.pur rfl rfl (p_add rfl rfl ((wr (by omega) (by omega)).trans (show (k : Int) + 1 = ((k + 1 : Nat) : Int) by omega))) ?_
        refine sg_ rfl rfl rfl ?_
        refine FL.nil ?_
        exact ⟨(k, k + 1), ⟨rfl, rfl, rfl, trivial⟩, ⟨hf, by omega, hkn, hkn, .inr ⟨hk1, c1⟩⟩, by show n - (k + 1) < n - k; omega⟩
      · refine blk_normal (thn_normal ?_)
        refine FC.region ?_
        refine mv_ rfl rfl rfl ?_
        refine FL.pur rfl rfl (p_add rfl rfl ((wr (by omega) (by omega)).trans (show (k : Int) + 1 = ((k + 1 : Nat) : Int) by omega))) ?_
        refine sg_ rfl rfl rfl ?_
        refine FL.nil ?_
        exact ⟨(b, k + 1), ⟨rfl, rfl, rfl, trivial⟩, ⟨hf, by omega, hkn, hb, .inr (hI.elim (fun hh => absurd hh.1 c2) id)⟩, by show n - (k + 1) < n - k; omega⟩
  rintro b w2 ⟨hf, hr⟩
  refine FC.seq (FC.region ?_)
  refine mv_ rfl rfl rfl ?_
  refine sg_ rfl rfl rfl ?_
  refine FL.nilK ?_
  refine FC.ret ?_
  repeat with_reducible first | refine thn_ret ?_ | refine blk_ret ?_ | refine nog_ret ?_
  exact ret1 Try.results55 rfl ⟨b, rfl, hr, hf⟩
theorem built36 (v1 v2 : Value) (a b : Nat) (ans : Int) (A1 A2 : Option Addr) (n1 n2 : Nat) (h1 : v1 = .slice A1 n1 a) (h2 : v2 = .slice A2 n2 b) : Try.prog.built 36 [(0, .int .u8 ans), (2, v2)] = some #[.int .u8 ans, .slice none 0 0, v2] := by
  subst h1 h2
  kernel_rfl
theorem built36a (ans : Int) : Try.prog.built 36 [(0, .int .u8 ans)] = some #[.int .u8 ans, .slice none 0 0, .slice none 0 0] := by kernel_rfl
theorem built36e : Try.prog.built 36 [] = some #[.int .u8 0, .slice none 0 0, .slice none 0 0] := by kernel_rfl
/-- The rows of the proof. -/
theorem Srch.proofRow {Pr : Nat → Prop} (h : Srch w B g0 s V) (hP : ∀ k, foot g0 V k → Pr k) : AllRow w B Pr (V .proof) s.proof := by
  refine ⟨C s V .proof, by have := h.own .proof; rwa [show (C s V .proof).length = s.proof.length from rowsOf_length _ _] at this, fun i hi => ⟨V (.prow i), rowsOf_get _ _ i hi, ?_⟩⟩
  have h1 : RowP w (fun k => (V (.prow i)).ownBlock = some k) (V (.prow i)) (s.proof.getD i []) := by
    have ho := h.own (.prow i)
    have hC : C s V (.prow i) = nums .i64 (s.proof.getD i []) := rfl
    have hlen : (C s V (.prow i)).length = (s.proof.getD i []).length := by rw [hC]; simp [nums]
    rcases ho.2 with ⟨e, hn⟩ | ⟨q, cap, cur, e, hb, hh, hc, hm, hs, ht⟩
    · rw [hlen] at hn
      exact ⟨none, 0, by rw [e, hn], fun j hj => by omega⟩
    · rw [hlen] at e
      refine ⟨some ⟨q, 0, none⟩, cap, e, fun j hj => ⟨_, rfl, by rw [e]; rfl, ?_⟩⟩
      refine ho.cells (g := q) (by rw [e]; rfl) j _ ?_
      rw [hC]
      generalize s.proof.getD i [] = d at hj
      simp [nums, g, List.getElem?_eq_getElem hj]
  exact h1.mono fun k hk _ => ⟨hP k (.inr ⟨_, hk⟩), fun e => by cases h.inj _ _ _ hk e⟩
theorem setRow_size (w : World) (b : Nat) (cs : Array Value) : (w.setRow b cs).heap.size = w.heap.size := size_setRow w b cs
theorem Fr.setRow {F : Nat → Prop} (h : Fr F w w') {b : Nat} (cs : Array Value) (hb : F b ∨ w.heap.size ≤ b) : Fr F w (w'.setRow b cs) :=
  ⟨h.os, h.tape, h.output, by rw [setRow_size]; exact h.size, fun k hk hn => (setRow_other w' b k cs fun e => by
    subst e
    rcases hb with hb | hb
    · exact hn hb
    · omega).trans (h.block k hk hn)⟩
/-- Rows of rows that are only read, with their room. -/
def RwsC (w : World) (P : Nat → Prop) (v : Value) (cs : List (List Int)) : Prop := RwsP w P v cs ∧ ∃ A c, v = .slice A cs.length c ∧ cs.length ≤ c
theorem RwsC.mono {P Q : Nat → Prop} {v : Value} {cs : List (List Int)} (h : RwsC w P v cs) (hp : ∀ k, P k → k < w.heap.size → Q k) : RwsC w Q v cs := ⟨h.1.mono hp, h.2⟩
theorem RwsC.fr {P F : Nat → Prop} {v : Value} {cs : List (List Int)} (h : RwsC w P v cs) (hf : Fr F w w') (hp : ∀ k, P k → ¬ F k) : RwsC w' P v cs := ⟨h.1.fr hf hp, h.2⟩
theorem AllRow.room {P : Nat → Prop} {v : Value} {cs : List (List Int)} (h : AllRow w B P v cs) : ∃ A c, v = .slice A cs.length c ∧ cs.length ≤ c := by
  obtain ⟨us, h1, _⟩ := h.out
  rcases h1.2 with ⟨e, hn⟩ | ⟨q, cap, cur, e, hb, hh, hc, _⟩
  · exact ⟨none, 0, by rw [e, hn], by omega⟩
  · exact ⟨_, cap, e, hc⟩
theorem refuted_calls (h : Srch w B g0 s V) (hlen : s.proof.length < 1099511627776) :
    Calls Try.prog 41 #[.pointer (some ⟨g0, 0, none⟩)] w fun e w' => ∃ pv, e = .returned (.agg #[.int .u8 2, .slice none 0 0, pv]) ∧ RwsC w' (fun k => foot g0 V k ∨ w.heap.size ≤ k) pv (s.proof ++ [[]]) ∧ Fr (foot g0 V) w w' := by
  refine calls_of_FC (N := 11) (vs := [.pointer (some ⟨g0, 0, none⟩)]) Try.func41 rfl Try.ntmps41 (Nat.le_of_ble_eq_true rfl) ?_
  refine FC.seq (FC.region ?_)
  refine FL.val _ _ rfl rfl (p_allocA inf36_eq inf36_zero) ?_
  refine FL.nilK ?_
  obtain ⟨rb, hrb⟩ : ∃ rb, rb = w.heap.size := ⟨_, rfl⟩
  obtain ⟨w1, hw1⟩ : ∃ w1, w1 = w.alloc (.cells (Value.agg #[.int .u8 0, .slice none 0 0, .slice none 0 0]).cells 36) := ⟨_, rfl⟩
  have f1 : Fr (fun _ => False) w w1 := by rw [hw1]; exact (Fr.refl _ w).alloc _
  have g1 : w1.heap[rb]? = some (.cells #[.int .u8 0, .slice none 0 0, .slice none 0 0] 36) := by rw [hw1, hrb]; exact heap_alloc_new w _
  have s1 : rb < w1.heap.size := (Array.getElem?_eq_some_iff.1 g1).1
  rw [← hw1, ← hrb]
  have h1 := h.fr f1 fun _ h => h.elim
  have hlt : ∀ k, (V .proof).ownBlock = some k → k < w.heap.size := fun k hk => h.lt (.inr ⟨_, hk⟩)
  obtain ⟨w2, hw2⟩ : ∃ w2, w2 = w1.alloc (.cells #[] 3) := ⟨_, rfl⟩
  have f2 : Fr (fun _ => False) w1 w2 := by rw [hw2]; exact (Fr.refl _ w1).alloc _
  have h2 := h1.fr f2 fun _ h => h.elim
  have hall := (h.proofRow (Pr := fun k => (foot g0 V k ∨ w.heap.size ≤ k) ∧ k ≠ rb) fun k hk => ⟨.inl hk, by have := h.lt hk; omega⟩).fr (f1.trans f2 fun _ h => h.elim) (fun _ _ h => h) (fun _ _ h => h)
  have hnil : RowP w2 (fun k => ((foot g0 V k ∨ w.heap.size ≤ k) ∧ k ≠ rb) ∧ ¬ (V .proof).ownBlock = some k) (.slice (some ⟨w1.heap.size, 0, none⟩) 0 0) [] := ⟨_, 0, rfl, fun i hi => absurd hi (Nat.not_lt_zero _)⟩
  have hB2 : B ≤ w2.heap.size := by have := h2.lt (k := g0) (.inl rfl); have := h2.gB; omega
  refine FC.seq (FC.region ?_)
  refine mv_ rfl rfl rfl ?_
  refine FL.pur rfl rfl (p_nilCheck rfl) ?_
  refine FL.pur rfl rfl (fld67_10 rfl) ?_
  refine FL.val _ _ rfl rfl (p_load rfl Try.underlying22 rfl h1.f_proof) ?_
  refine FL.val _ _ rfl rfl bld41_0 ?_
  rw [← hw2]
  refine FL.val _ _ rfl rfl (bld22 rfl rfl) ?_
  refine FL.valG _ rfl rfl (hall.app hB2 hlen hnil rfl rfl) ?_
  rintro pv w3 ⟨hall3, f3, hpv⟩
  obtain ⟨Ap, np, hpe⟩ : ∃ A c, pv = .slice A (s.proof ++ [[]]).length c := by { obtain ⟨A, c, e, _⟩ := hall3.rws; exact ⟨A, c, e⟩ }
  have g3 : w3.heap[rb]? = some (.cells #[.int .u8 0, .slice none 0 0, .slice none 0 0] 36) := (f3.block rb (by have := f2.size; omega) fun e => by have := hlt rb e; omega).trans ((f2.block rb s1 fun h => h).trans g1)
  refine FL.pur rfl rfl (p_build (parts := [(0, .const (.int .u8 2)), (2, .tmp 9)]) (fun a ha => by simp only [List.map_cons, List.map_nil]; rw [ha.ev (x := .tmp 9) rfl, ha.ev (x := .const (.int .u8 2)) rfl]) (built36 (.slice none 0 0) pv 0 np 2 none Ap 0 (s.proof ++ [[]]).length rfl hpe)) ?_
  refine FL.sto _ rfl (p_storeA rfl rfl g3 inf36_size rfl (by rw [hpe]; simp [Value.oneCell'])) ?_
  refine FL.nilK ?_
  refine FC.ret ?_
  repeat with_reducible first | refine thn_ret ?_ | refine blk_ret ?_ | refine nog_ret ?_
  have fF : Fr (foot g0 V) w w3 := ((f1.mono fun _ h => h.elim).trans (f2.mono fun _ h => h.elim) fun _ h => .inl h).trans f3 fun k hk => .inl (.inr ⟨_, hk⟩)
  have f4 := fF.setRow #[.int .u8 2, .slice none 0 0, pv] (.inr (by omega : w.heap.size ≤ rb))
  have f5 : Fr (fun k => k = rb) w3 (w3.setRow rb #[.int .u8 2, .slice none 0 0, pv]) := (Fr.refl _ w3).setRow _ (.inl rfl)
  have g4 : (w3.setRow rb #[.int .u8 2, .slice none 0 0, pv]).heap[rb]? = some (.cells #[.int .u8 2, .slice none 0 0, pv] 36 (0, 0)) := setRow_heap w3 rb _ _ 36 (0, 0) g3
  refine retC Try.results41 rfl g4 Try.underlying36 rfl inf36_size ⟨pv, rfl, ?_, f4⟩
  have hne : RwsP w3 (fun k => (foot g0 V k ∨ w.heap.size ≤ k) ∧ k ≠ rb) pv (s.proof ++ [[]]) := hall3.rws.mono fun k hk _ => hk.elim id fun e => by
    rcases hpv with h | ⟨b, h, hb⟩
    · rw [h] at e
      have := hlt k e
      exact ⟨.inl (.inr ⟨_, e⟩), by omega⟩
    · rw [h] at e
      injection e with e
      have := f2.size
      exact ⟨.inr (by have := f1.size; omega), by omega⟩
  exact ⟨(hne.fr f5 fun k hk => hk.2).mono fun k hk _ => (by rw [hrb]; exact hk.1), hall3.room⟩
end
end Go.Proofs.Ytcahhbcehnbdkaa.Sv

/- Walk of found. -/
namespace Go.Proofs.Ytcahhbcehnbdkaa.Sv
open Go.RowKit Go.Proofs.YtcahhbcehnbdkaaW.PrintWords Go.Proofs.YtcahhbcehnbdkaaW.PrintLast Go.Proofs.Ytcahhbcehnbdkaa.Eng
/-- A row of truth values that is only read, its block of P. -/
def BRowP (w : World) (P : Nat → Prop) (v : Value) (bs : List Bool) : Prop :=
  ∃ A cap, v = .slice A bs.length cap ∧ ∀ i, i < bs.length → ∃ ad, A = some ad ∧ P ad.block ∧ w.cell? (ad.add i) = some (.bool (bs.getD i false))
/-- The model of a search. -/
def modelS (s : S) (n : Nat) : List Bool := (List.range (n - 1)).map fun (i : Nat) => decide (rd s.value ((i : Int) + 1) = 1)
section
variable {w w1 w2 : World} {B B0 g0 n tb : Nat} {s : S} {V : Lay} {v : Value} {bs : List Bool}
theorem own_appB {ρ : Env} {dst : Option Tmp} {tp : TypeId} {pos : String} {af : Array Edge} {gd : Option (Nat × Bool)} {x y : Operand} (h : w.ownsRow B 4 1 v bs.length (bs.map .bool)) (hlen : bs.length < 1099511627776) (b : Bool) (hB : B ≤ w.heap.size) (hx : ev ρ x = some v) (hy : ev ρ y = some (.slice (some ⟨w.heap.size, 0, none⟩) 1 1)) :
    ∃ v1 w1, Val Try.prog ρ ⟨dst, .call { callee := .builtin .append, args := #[x, y], argTypes := #[23, 23] }, tp, pos, af, gd⟩ (w.alloc (.cells #[.bool b] 4)) v1 w1 ∧ w1.ownsRow B 4 1 v1 (bs ++ [b]).length ((bs ++ [b]).map .bool) ∧ Fr (fun k => v.ownBlock = some k) w w1 := by
  obtain ⟨v1, w1, h1, h2, h3, h4⟩ := app23 (ρ := ρ) (dst := dst) (ty := tp) (pos := pos) (af := af) (g := gd) hx hy (h.alloc (.cells #[.bool b] 4)) (news := [.bool b]) rfl (news1 w _ _) (by simp [Value.oneCell']) (by omega) (by simp; omega)
  exact ⟨v1, w1, h1, by simpa using h2, ((Fr.refl _ w).alloc _).grown h3 (fun k hk => .inl hk)⟩
theorem BRowP.fr {w w' : World} {P F : Nat → Prop} {v : Value} {bs : List Bool} (h : BRowP w P v bs) (hf : Fr F w w') (hp : ∀ k, P k → ¬ F k) : BRowP w' P v bs := by
  obtain ⟨A, cap, rfl, h1⟩ := h
  refine ⟨A, cap, rfl, fun i hi => ?_⟩
  obtain ⟨ad, e1, e2, e3⟩ := h1 i hi
  exact ⟨ad, e1, e2, hf.cell e3 (by rw [add_block]; exact hp _ e2)⟩
theorem BRowP.mono {w : World} {P Q : Nat → Prop} {v : Value} {bs : List Bool} (h : BRowP w P v bs) (hp : ∀ k, P k → k < w.heap.size → Q k) : BRowP w Q v bs := by
  obtain ⟨A, cap, rfl, h1⟩ := h
  refine ⟨A, cap, rfl, fun i hi => ?_⟩
  obtain ⟨ad, e1, e2, e3⟩ := h1 i hi
  have hb := World.block_lt_of_cell? w _ e3
  rw [add_block] at hb
  exact ⟨ad, e1, hp _ e2 hb, e3⟩
/-- The struct that is filled. -/
structure FW (w : World) (tb : Nat) (w2 : World) (v : Value) (bs : List Bool) : Prop where
  st : w2.heap[tb]? = some (.cells #[.int .u8 1, v, .slice none 0 0] 36 (0, 0))
  ow : w2.ownsRow (tb + 1) 4 1 v bs.length (bs.map .bool)
  fr : Fr (fun _ => False) w w2
  ge : w.heap.size ≤ tb
theorem FW.drew (h : FW w tb w2 v bs) : FW w tb w2.drew v bs := ⟨h.st, ownsRow_same h.ow fun _ _ => rfl, h.fr.drew, h.ge⟩
theorem FW.cell (h : FW w tb w2 v bs) : w2.cell? ⟨tb, 1, none⟩ = some v := by rw [cell_of_row _ _ _ _ _ _ h.st]; rfl
theorem FW.app (h : FW w tb w2 v bs) {b : Bool} {v1 : Value} (ho : w1.ownsRow (tb + 1) 4 1 v1 (bs ++ [b]).length ((bs ++ [b]).map .bool)) (hf : Fr (fun k => v.ownBlock = some k) w2 w1) :
    w1.cell? ⟨tb, 1, none⟩ = some v ∧ w1.frozen? ⟨tb, 1, none⟩ = false ∧ FW w tb (w1.setCell ⟨tb, 1, none⟩ v1) v1 (bs ++ [b]) := by
  have hlt := (Array.getElem?_eq_some_iff.1 h.st).1
  have hv : ∀ k, v.ownBlock = some k → tb + 1 ≤ k := fun k hk => (h.ow.lt k hk).1
  have st : w1.heap[tb]? = some (.cells #[.int .u8 1, v, .slice none 0 0] 36 (0, 0)) := (hf.block tb hlt fun e => by have := hv _ e; omega).trans h.st
  refine ⟨by rw [cell_of_row _ _ _ _ _ _ st]; rfl, blk_frozen st 1, ?_, ownsRow_same ho fun k hk => Below.heap_setCell w1 _ _ k fun e => ?_, ?_, h.ge⟩
  · rw [heap_setCell_same _ _ _ _ _ _ st]; rfl
  · have := (ho.lt k hk).1
    have e : k = tb := e
    omega
  · have f1 := h.fr.trans hf fun k hk => .inr (by have := hv k hk; have := h.ge; omega)
    exact f1.trans (⟨rfl, rfl, rfl, by rw [setCell_size]; exact Nat.le_refl _, fun k _ hk => Below.heap_setCell w1 _ _ k hk⟩ : Fr (fun k => k = tb) w1 (w1.setCell ⟨tb, 1, none⟩ v1)) fun k hk => .inr (by rw [hk]; exact h.ge)
theorem modelS_length (s : S) (n : Nat) : (modelS s n).length = n - 1 := by simp [modelS]
set_option maxHeartbeats 2000000 in
theorem found_calls (h : Srch w B g0 s V) (hv : s.value.length = n) (hat : s.atoms = (n : Int) - 1) (hn : 0 < n) (hn30 : n < 1073741824) :
    Calls Try.prog 56 #[.pointer (some ⟨g0, 0, none⟩)] w fun e w' => ∃ mv, e = .returned (.agg #[.int .u8 1, mv, .slice none 0 0]) ∧ BRowP w' (fun k => w.heap.size ≤ k) mv (modelS s n) ∧ Fr (fun _ => False) w w' := by
  refine calls_of_FC (N := 28) (vs := [.pointer (some ⟨g0, 0, none⟩)]) Try.func56 rfl Try.ntmps56 (Nat.le_of_ble_eq_true rfl) ?_
  refine FC.seq (FC.region ?_)
  refine FL.val _ _ rfl rfl (p_allocA inf36_eq inf36_zero) ?_
  refine FL.nilK ?_
  obtain ⟨rb, hrb⟩ : ∃ rb, rb = w.heap.size := ⟨_, rfl⟩
  obtain ⟨w1, hw1⟩ : ∃ w1, w1 = w.alloc (.cells (Value.agg #[.int .u8 0, .slice none 0 0, .slice none 0 0]).cells 36) := ⟨_, rfl⟩
  have f1 : Fr (fun _ => False) w w1 := by rw [hw1]; exact (Fr.refl _ w).alloc _
  have g1 : w1.heap[rb]? = some (.cells #[.int .u8 0, .slice none 0 0, .slice none 0 0] 36) := by rw [hw1, hrb]; exact heap_alloc_new w _
  have s1 : rb < w1.heap.size := (Array.getElem?_eq_some_iff.1 g1).1
  rw [← hw1, ← hrb]
  obtain ⟨tb, htb⟩ : ∃ tb, tb = w1.heap.size := ⟨_, rfl⟩
  obtain ⟨w2, hw2⟩ : ∃ w2, w2 = w1.alloc (.cells (Value.agg #[.int .u8 0, .slice none 0 0, .slice none 0 0]).cells 36) := ⟨_, rfl⟩
  have f2 : Fr (fun _ => False) w1 w2 := by rw [hw2]; exact (Fr.refl _ w1).alloc _
  have g2 : w2.heap[tb]? = some (.cells #[.int .u8 0, .slice none 0 0, .slice none 0 0] 36 (0, 0)) := by rw [hw2, htb]; exact heap_alloc_new w1 _
  refine FC.seq (FC.region ?_)
  refine FL.pur rfl rfl (p_build (parts := [(0, .const (.int .u8 1))]) (fun a ha => rfl) (built36a 1)) ?_
  refine FL.val _ _ rfl rfl (p_allocA inf36_eq inf36_zero) ?_
  rw [← hw2, ← htb]
  refine FL.sto _ rfl (p_storeA rfl rfl g2 inf36_size rfl (by simp [Value.oneCell'])) ?_
  refine FL.nilK ?_
  obtain ⟨w3, hw3⟩ : ∃ w3, w3 = w2.setRow tb #[.int .u8 1, .slice none 0 0, .slice none 0 0] := ⟨_, rfl⟩
  rw [← hw3]
  have f3 : Fr (fun _ => False) w w3 := by
    have := (f1.trans f2 fun _ h => h.elim).setRow #[.int .u8 1, .slice none 0 0, .slice none 0 0] (b := tb) (.inr (by have := f1.size; omega))
    rwa [← hw3] at this
  have hFW : FW w tb w3 (.slice none 0 0) [] := ⟨by rw [hw3]; exact setRow_heap w2 tb _ _ 36 (0, 0) g2, ⟨rfl, .inl ⟨rfl, rfl⟩⟩, f3, by have := f1.size; omega⟩
  have g3 : w3.heap[rb]? = some (.cells #[.int .u8 0, .slice none 0 0, .slice none 0 0] 36) := by
    rw [hw3, setRow_other _ _ _ _ (by omega)]
    exact (f2.block rb s1 fun h => h).trans g1
  refine FC.cut (σ := Value) (fun _ => [(2, .pointer (some ⟨rb, 0, none⟩)), (3, .pointer (some ⟨tb, 0, none⟩))]) (fun v w4 => FW w tb w4 v (modelS s n) ∧ w4.heap[rb]? = some (.cells #[.int .u8 0, .slice none 0 0, .slice none 0 0] 36)) ?_ ?_
  · refine FC.seq (FC.region ?_)
    refine sg_ rfl rfl rfl ?_
    refine FL.nilK ?_
    refine FC.block ?_
    refine FC.loop (σ := Nat × Value) (fun x => [(0, .pointer (some ⟨g0, 0, none⟩)), (2, .pointer (some ⟨rb, 0, none⟩)), (3, .pointer (some ⟨tb, 0, none⟩)), (4, .int .i64 ((x.1 : Int) + 1))]) (fun x w4 => FW w tb w4 x.2 ((modelS s n).take x.1) ∧ x.1 ≤ n - 1 ∧ w4.heap[rb]? = some (.cells #[.int .u8 0, .slice none 0 0, .slice none 0 0] 36)) (fun x => n - x.1) (0, .slice none 0 0) ⟨by rw [List.take_zero]; exact hFW, Nat.zero_le _, g3⟩ ⟨rfl, rfl, rfl, rfl, trivial⟩ ?_
    clear hFW g3 hw3 g2 hw2 hw1 g1
    rintro ⟨i, v⟩ w4 ⟨hW, hi, hg⟩
    simp only at hW hi hg ⊢
    have h4 := h.fr hW.fr fun _ h => h.elim
    refine FC.seq ?_
    refine FC.seq (FC.region ?_)
    refine mv_ rfl rfl rfl ?_
    refine mv_ rfl rfl rfl ?_
    refine FL.pur rfl rfl (p_nilCheck rfl) ?_
    refine FL.pur rfl rfl (fld67_0 rfl) ?_
    refine FL.val _ _ rfl rfl (p_load rfl Try.underlying3 rfl h4.f_atoms) ?_
    refine FL.pur rfl rfl (p_leq rfl rfl rfl) ?_
    refine FL.nilK ?_
    refine FC.cond (decide (((i : Int) + 1) ≤ s.atoms)) rfl (fun hcc => FC.skip (thn_normal ?_)) (fun hcc => FC.exit ?_)
    rotate_left
    · have hge : ¬ ((i : Int) + 1) ≤ s.atoms := of_decide_eq_false hcc
      rw [List.take_of_length_le (by rw [modelS_length]; omega)] at hW
      exact thn_exit (thn_exit (blk_exit ⟨v, ⟨rfl, rfl, trivial⟩, hW, hg⟩))
    have hin : i < n - 1 := by have := of_decide_eq_true hcc; omega
    have hW := hW.drew
    have h5 := h4.drew
    obtain ⟨bv, cv, hvv, _, _⟩ := h5.formOf .value n (by simp [C, nums, hv]) hn
    have hvc := h5.cell .value hvv ((i : Int) + 1).toNat (v := .int .i8 (rd s.value ((i : Int) + 1))) (nums_at .i8 s.value ((i : Int) + 1) (by omega) (by omega))
    have hS := And.intro hW.cell (And.intro (cellEq h5.f_value hvv) hvc)
    have hl : ((modelS s n).take i).length < 1099511627776 := by rw [List.length_take]; omega
    have hB : tb + 1 ≤ w4.drew.heap.size := by have := (Array.getElem?_eq_some_iff.1 hW.st).1; omega
    have htk : (modelS s n).take (i + 1) = (modelS s n).take i ++ [decide (rd s.value ((i : Int) + 1) = 1)] := by
      rw [List.take_add_one]
      simp [modelS, List.getElem?_map, List.getElem?_range hin]
    refine FC.seq ?_
    refine FC.block ?_
    refine (FC.draw (fun w => w.cell? ⟨tb, 1, none⟩ = some v ∧ w.cell? ⟨g0, 3, none⟩ = some (.slice (some ⟨bv, 0, none⟩) n cv) ∧ w.cell? ⟨bv, ((i : Int) + 1).toNat, none⟩ = some (.int .i8 (rd s.value ((i : Int) + 1)))) [11, 13] (bA 14 0) (by kernel_rfl) rfl rfl hS ?_)
    refine FA.pur (i := 0) (bA 14 1) rfl (by kernel_rfl) rfl rfl (fld36_1 rfl) ?_
    refine FA.pur (i := 2) (bA 14 5) rfl (by kernel_rfl) rfl rfl (p_move rfl) ?_
    refine FA.pur (i := 3) (bA 14 13) rfl (by kernel_rfl) rfl rfl (p_nilCheck rfl) ?_
    refine FA.pur (i := 4) (bA 14 29) rfl (by kernel_rfl) rfl rfl (fld67_3 rfl) ?_
    refine FA.pur (i := 6) (bA 14 93) rfl (by kernel_rfl) rfl rfl (p_move rfl) ?_
    refine FA.lod (i := 1) (bA 14 95) rfl (by kernel_rfl) rfl rfl hS (fun _ hs => p_load rfl Try.underlying23 rfl hs.1) ?_
    refine FA.lod (i := 5) (bA 14 127) rfl (by kernel_rfl) rfl rfl hS (fun _ hs => p_load rfl Try.underlying65 rfl hs.2.1) ?_
    refine FA.pur (i := 7) (bA 14 255) rfl (by kernel_rfl) rfl rfl (idx65 rfl rfl (by omega) (by omega)) ?_
    refine FA.lod (i := 8) (bA 14 511) rfl (by kernel_rfl) rfl rfl hS (fun _ hs => p_load rfl Try.underlying53 rfl hs.2.2) ?_
    refine FA.pur (i := 9) (bA 14 1023) rfl (by kernel_rfl) rfl rfl (p_eql rfl rfl rfl) ?_
    refine FA.one (i := 10) _ _ (bA 14 2047) rfl (by kernel_rfl) (by decide) rfl rfl (bld23 rfl rfl) ⟨cell_alloc hS.1 _, cell_alloc hS.2.1 _, cell_alloc hS.2.2 _⟩ ?_
    refine FA.lastG (i := 11) _ (bA 14 4095) rfl (by kernel_rfl) (by decide) rfl rfl (own_appB hW.ow hl (decide (rd s.value ((i : Int) + 1) = 1)) hB rfl rfl) ?_
    rintro v5 w5 ⟨ho5, f5⟩
    obtain ⟨x1, x2, hW5⟩ := hW.app ho5 f5
    refine FA.pur (i := 12) (bA 14 8191) rfl (by kernel_rfl) rfl rfl (fld36_1 rfl) ?_
    refine FA.lastS (i := 13) _ (bA 14 16383) rfl (by kernel_rfl) (by decide) rfl (st23 rfl rfl (own_one ho5) x1 x2) ?_
    refine FA.done (by kernel_rfl) ?_
    refine blk_normal (thn_normal ?_)
    refine FC.region ?_
    refine mv_ rfl rfl rfl ?_
    refine FL.pur rfl rfl (p_add rfl rfl ((wr (by omega) (by omega)).trans (show ((i : Int) + 1) + 1 = (((i + 1 : Nat) : Int) + 1) by omega))) ?_
    refine sg_ rfl rfl rfl ?_
    refine FL.nil ?_
    have hg5 : (w5.setCell ⟨tb, 1, none⟩ v5).heap[rb]? = some (.cells #[.int .u8 0, .slice none 0 0, .slice none 0 0] 36) := by
      rw [Below.heap_setCell w5 _ _ rb (by show rb ≠ tb; omega)]
      exact (f5.block rb (Array.getElem?_eq_some_iff.1 hg).1 fun e => by have := (hW.ow.lt rb e).1; omega).trans hg
    exact ⟨(i + 1, v5), ⟨rfl, rfl, rfl, rfl, trivial⟩, ⟨by rw [htk]; exact hW5, by omega, hg5⟩, by show n - (i + 1) < n - i; omega⟩
  rintro v w4 ⟨hW, hg⟩
  obtain ⟨Av, cv, hve⟩ : ∃ A c, v = .slice A (modelS s n).length c := by
    obtain ⟨A, c, e⟩ := own_slice hW.ow
    exact ⟨A, c, e⟩
  refine FC.seq (FC.region ?_)
  refine FL.val _ _ rfl rfl (p_loadA rfl Try.underlying36 rfl hW.st inf36_size) ?_
  refine FL.sto _ rfl (p_storeA rfl rfl hg inf36_size rfl (by rw [hve]; simp [Value.oneCell'])) ?_
  refine FL.nilK ?_
  refine FC.ret ?_
  repeat with_reducible first | refine thn_ret ?_ | refine blk_ret ?_ | refine nog_ret ?_
  have g4 : (w4.setRow rb #[.int .u8 1, v, .slice none 0 0]).heap[rb]? = some (.cells #[.int .u8 1, v, .slice none 0 0] 36 (0, 0)) := setRow_heap w4 rb _ _ 36 (0, 0) hg
  have f4 := hW.fr.setRow #[.int .u8 1, v, .slice none 0 0] (b := rb) (.inr (by omega))
  have f5 : Fr (fun k => k = rb) w4 (w4.setRow rb #[.int .u8 1, v, .slice none 0 0]) := (Fr.refl _ w4).setRow _ (.inl rfl)
  refine retC Try.results56 rfl g4 Try.underlying36 rfl inf36_size ⟨v, rfl, ?_, f4⟩
  have ho := ownsRow_same (w' := w4.setRow rb #[.int .u8 1, v, .slice none 0 0]) hW.ow fun k hk => setRow_other w4 rb k _ (by have := (hW.ow.lt k hk).1; omega)
  rcases ho.2 with ⟨e, h0⟩ | ⟨q, cap, cur, e, hb, hh, hc, hm, hs, ht⟩
  · exact ⟨none, 0, by rw [e, h0], fun i hi => by omega⟩
  · refine ⟨some ⟨q, 0, none⟩, cap, e, fun i hi => ⟨_, rfl, (by show rb ≤ q; have := hW.ge; omega), ?_⟩⟩
    refine ho.cells (g := q) (by rw [e]; rfl) i _ ?_
    simp [List.getElem?_eq_getElem hi]
end
end Go.Proofs.Ytcahhbcehnbdkaa.Sv

/- A row of the proof comes in. -/
namespace Go.Proofs.Ytcahhbcehnbdkaa.Sv
open Go.RowKit Go.Proofs.YtcahhbcehnbdkaaW.PrintWords
section
variable {w w1 : World} {B g : Nat} {s s' : S} {V : Lay}
theorem Srch.pushProof (h : Srch w B g s V) {v : Value} {c : List Int} (ho : Own w B g V v c) {v1 : Value} (hg : Grew w V .proof B 41 (C s V .proof ++ [v]) v1 w1) :
    Srch (w1.setCell ⟨g, 10, none⟩ v1) B g { s with proof := s.proof ++ [c] } (upd (upd V .proof v1) (.prow s.proof.length) v) ∧
      (∀ k, foot g (upd (upd V .proof v1) (.prow s.proof.length) v) k → foot g V k ∨ v.ownBlock = some k ∨ w.heap.size ≤ k) ∧ Fr (foot g V) w (w1.setCell ⟨g, 10, none⟩ v1) := by
  obtain ⟨V1, hV1⟩ : ∃ V1, upd V .proof v1 = V1 := ⟨_, rfl⟩
  obtain ⟨V2, hV2⟩ : ∃ V2, upd V1 (.prow s.proof.length) v = V2 := ⟨_, rfl⟩
  have e1 : V1 .proof = v1 := by rw [← hV1, upd_self]
  have e2 : ∀ r, r ≠ .proof → V1 r = V r := fun r hr => by rw [← hV1, upd_ne V v1 hr]
  have e3 : V2 (.prow s.proof.length) = v := by rw [← hV2, upd_self]
  have e4 : ∀ r, r ≠ .prow s.proof.length → V2 r = V1 r := fun r hr => by rw [← hV2, upd_ne V1 v hr]
  rw [hV1, hV2]
  have hlt := h.lt (k := g) (.inl rfl)
  have hgr : ¬ (V .proof).ownBlock = some g := h.gne _
  have hobj := h.objG hg
  have hv1 : ∀ k, v1.ownBlock = some k → (V .proof).ownBlock = some k ∨ w.heap.size ≤ k := by
    intro k hk
    rcases hg.at_ with e | ⟨b, e, hb⟩
    · exact .inl (by rw [← e]; exact hk)
    · rw [e] at hk; injection hk with hk; exact .inr (hk ▸ hb)
  have hfr : ∀ k, k < w.heap.size → k ≠ g → (V .proof).ownBlock ≠ some k → (w1.setCell ⟨g, 10, none⟩ v1).heap[k]? = w.heap[k]? := fun k hk h1 h2 =>
    (Below.heap_setCell w1 _ _ k h1).trans (hg.fr.block k hk h2)
  have hown : ∀ r, r ≠ .proof → (w1.setCell ⟨g, 10, none⟩ v1).ownsRow B (ty r) 1 (V r) (C s V r).length (C s V r) := fun r hr =>
    ownsRow_same (h.own r) fun k hk => hfr k (h.lt (.inr ⟨r, hk⟩)) (fun e => h.gne r (by rw [hk, e])) fun e => hr (h.inj r .proof k hk e)
  have hvg : v.ownBlock ≠ some g := fun e => ho.apart g e (.inl rfl)
  have hCc : ∀ r, r ≠ .proof → r ≠ .prow s.proof.length → C { s with proof := s.proof ++ [c] } V2 r = C s V r := by
    intro r h1 h2
    have hr : V2 r = V r := (e4 r h2).trans (e2 r h1)
    cases r with
    | prow i =>
      have : i ≠ s.proof.length := fun e => h2 (by rw [e])
      simp only [C, List.getD_eq_getElem?_getD]
      by_cases hi : i < s.proof.length
      · rw [List.getElem?_append_left hi]
      · rw [List.getElem?_append_right (by omega), List.getElem?_eq_none (by simp; omega), List.getElem?_eq_none (by omega)]
    | proof => exact absurd rfl h1
    | watch => simp only [C]; exact rowsOf_congr fun i _ => (e4 _ (by simp)).trans (e2 _ (by simp))
    | clauses => simp only [C]; exact rowsOf_congr fun i _ => (e4 _ (by simp)).trans (e2 _ (by simp))
    | _ => rfl
  refine ⟨⟨fun r => ?_, fun r1 r2 k h1 h2 => ?_, ?_, h.gB, fun r => ?_, fun i hi => ?_, fun i hi => ?_, fun i hi => ?_⟩, fun k hk => ?_, ⟨hg.fr.os, hg.fr.tape, hg.fr.output, by rw [setCell_size]; exact hg.fr.size, fun k hk hn => hfr k hk (fun e => hn (.inl e)) fun e => hn (.inr ⟨_, e⟩)⟩⟩
  · by_cases c1 : r = .proof
    · subst c1
      have hCC : C { s with proof := s.proof ++ [c] } V2 .proof = C s V .proof ++ [v] := by
        simp only [C, List.length_append, List.length_singleton]
        rw [rowsOf_succ, e3]
        congr 1
        exact rowsOf_congr fun i hi => (e4 _ (by simp; omega)).trans (e2 _ (by simp))
      rw [hCC, e4 _ (by simp), e1]
      refine ownsRow_same hg.own fun k hk => Below.heap_setCell w1 _ _ k fun e => ?_
      rcases hv1 k hk with h3 | h3
      · exact hgr (by rw [h3, e])
      · simp at e; omega
    · by_cases c2 : r = .prow s.proof.length
      · subst c2
        have hCC : C { s with proof := s.proof ++ [c] } V2 (.prow s.proof.length) = nums .i64 c := by simp [C]
        rw [hCC, e3]
        have := ho.own
        rw [show (nums .i64 c).length = c.length by simp [nums]]
        refine ownsRow_same this fun k hk => hfr k (ho.lt hk) (fun e => hvg (by rw [hk, e])) fun e => ho.apart k hk (.inr ⟨_, e⟩)
      · rw [hCc r c1 c2, e4 r c2, e2 r c1]
        exact hown r c1
  · by_cases c1 : r1 = .prow s.proof.length <;> by_cases c2 : r2 = .prow s.proof.length
    · rw [c1, c2]
    · subst c1
      rw [e3] at h1
      rw [e4 r2 c2] at h2
      by_cases c3 : r2 = .proof
      · subst c3
        rw [e1] at h2
        rcases hv1 k h2 with h3 | h3
        · exact absurd (.inr ⟨_, h3⟩) (ho.apart k h1)
        · have := ho.lt h1; omega
      · rw [e2 r2 c3] at h2
        exact absurd (.inr ⟨_, h2⟩) (ho.apart k h1)
    · subst c2
      rw [e3] at h2
      rw [e4 r1 c1] at h1
      by_cases c3 : r1 = .proof
      · subst c3
        rw [e1] at h1
        rcases hv1 k h1 with h3 | h3
        · exact absurd (.inr ⟨_, h3⟩) (ho.apart k h2)
        · have := ho.lt h2; omega
      · rw [e2 r1 c3] at h1
        exact absurd (.inr ⟨_, h1⟩) (ho.apart k h2)
    · rw [e4 r1 c1] at h1
      rw [e4 r2 c2] at h2
      by_cases c3 : r1 = .proof <;> by_cases c4 : r2 = .proof
      · rw [c3, c4]
      · subst c3
        rw [e1] at h1
        rw [e2 r2 c4] at h2
        rcases hv1 k h1 with h3 | h3
        · exact h.inj _ _ k h3 h2
        · have := h.lt (k := k) (.inr ⟨_, h2⟩); omega
      · subst c4
        rw [e1] at h2
        rw [e2 r1 c3] at h1
        rcases hv1 k h2 with h3 | h3
        · exact h.inj _ _ k h1 h3
        · have := h.lt (k := k) (.inr ⟨_, h1⟩); omega
      · rw [e2 r1 c3] at h1
        rw [e2 r2 c4] at h2
        exact h.inj _ _ k h1 h2
  · have : cellsS { s with proof := s.proof ++ [c] } V2 = (cellsS s V).setIfInBounds 10 v1 := by
      simp [cellsS, e4, e2, e1]
    rw [this]
    exact setCell_heap_self hobj 10 v1
  · by_cases c2 : r = .prow s.proof.length
    · subst c2; rw [e3]; exact hvg
    · rw [e4 r c2]
      by_cases c1 : r = .proof
      · subst c1
        rw [e1]
        intro e
        rcases hv1 g e with h3 | h3
        · exact hgr h3
        · omega
      · rw [e2 r c1]; exact h.gne r
  · rw [e4 _ (by simp), e2 _ (by simp)]; exact h.vc i hi
  · rw [e4 _ (by simp), e2 _ (by simp)]; exact h.vw i hi
  · rw [e4 _ (by simp at hi ⊢; omega), e2 _ (by simp)]; exact h.vp i (by simp at hi; omega)
  · rcases hk with rfl | ⟨r, hk⟩
    · exact .inl (.inl rfl)
    · by_cases c2 : r = .prow s.proof.length
      · subst c2; rw [e3] at hk; exact .inr (.inl hk)
      · rw [e4 r c2] at hk
        by_cases c1 : r = .proof
        · subst c1
          rw [e1] at hk
          rcases hv1 k hk with h3 | h3
          · exact .inl (.inr ⟨_, h3⟩)
          · exact .inr (.inr h3)
        · rw [e2 r c1] at hk; exact .inl (.inr ⟨_, hk⟩)
theorem Goes.thenX {V1 V2 : Lay} {w2 : World} {X : Nat → Prop} (h : Goes g V w V1 w1) (k : GoesX g V1 w1 X V2 w2) (hX : ∀ i, X i → w.heap.size ≤ i) : Goes g V w V2 w2 :=
  ⟨h.fr.trans k.fr fun i hi => by
    rcases hi with hi | hi
    · exact h.sub i hi
    · exact .inr (hX i hi), fun i hi => by
    rcases k.sub i hi with h1 | h1 | h1
    · exact h.sub i h1
    · exact .inr (hX i h1)
    · exact .inr (Nat.le_trans h.fr.size h1)⟩
end
end Go.Proofs.Ytcahhbcehnbdkaa.Sv

/- Walk of (*search).run. -/
namespace Go.Proofs.Ytcahhbcehnbdkaa.Sv
open Go.RowKit Go.Proofs.YtcahhbcehnbdkaaW.PrintWords Go.Proofs.YtcahhbcehnbdkaaW.PrintLast Go.Proofs.Ytcahhbcehnbdkaa.Eng

/-- An atom that no clause decides by itself. -/
def Undet (Φ0 : List (List Int)) (n : Nat) : Prop := ∃ l, Lit n l ∧ l ≠ 0 ∧ ¬ D Φ0 (fun _ => False) l ∧ ¬ D Φ0 (fun _ => False) (-l)
/-- What Solve's answer says. -/
def OutR (Φ0 : List (List Int)) (n : Nat) (sure : Bool) (w' : World) (Pr : Nat → Prop) (ans : Int) (mv pv : Value) : Prop :=
  (ans = 1 ∧ pv = .slice none 0 0 ∧ ∃ bs, BRowP w' Pr mv bs ∧ bs.length = n - 1 ∧ (Φ0.all fun c => c.any (isB bs)) = true) ∨
  (ans = 2 ∧ mv = .slice none 0 0 ∧ ∃ ps, RwsC w' Pr pv ps ∧ RefSpec ((n : Int) - 1) Φ0 ps ∧ ∀ c ∈ ps, c.length < n) ∨
  (ans = 3 ∧ (sure = false ∧ Undet Φ0 n) ∧ mv = .slice none 0 0 ∧ pv = .slice none 0 0)
section
variable {w w1 w2 : World} {B g0 n N0 : Nat} {s : S} {V : Lay} {ks : List Nat} {Φ0 : List (List Int)}
theorem all3 {a b c : Value} (h1 : a.oneCell' = true) (h2 : b.oneCell' = true) (h3 : c.oneCell' = true) : (#[a, b, c].all (·.oneCell')) = true := by simp [h1, h2, h3]
theorem mu_lt {X X' m a b : Nat} (h : X' + 1 ≤ X ∨ (X' ≤ X ∧ b < a)) (hb : b ≤ m) : X' * (m + 1) + b < X * (m + 1) + a := by
  rcases h with h | ⟨h, h2⟩
  · have := Nat.mul_le_mul_right (m + 1) h
    rw [Nat.add_mul, Nat.one_mul] at this
    omega
  · have := Nat.mul_le_mul_right (m + 1) h
    omega
def muR (n : Nat) (s : S) (ks : List Nat) : Nat := (2 ^ (n - 1) - wgt (n - 1) ks s.trail.length) * (n + 1) + (n - ks.length)
theorem ks_len {m : Nat} : ∀ {l : List Nat}, l.Pairwise (· < ·) → (∀ k ∈ l, k < m) → l.length ≤ m := fun {l} hp hm => by
  have h1 : (l.map fun (k : Nat) => (k : Int)).Nodup := by
    rw [List.nodup_iff_pairwise_ne, List.pairwise_map]
    exact hp.imp fun h e => by omega
  have h2 := nodup_len (m := (List.range m).map fun (k : Nat) => (k : Int)) h1 fun x hx => by
    obtain ⟨k, hk, rfl⟩ := List.mem_map.1 hx
    exact List.mem_map.2 ⟨k, List.mem_range.2 (hm k hk), rfl⟩
  simpa using h2
theorem Run.tlen (h : Run Φ0 s n N0 ks) (hn : 0 < n) : s.trail.length ≤ n - 1 ∧ ks.length ≤ s.trail.length ∧ wgt (n - 1) ks s.trail.length < 2 ^ (n - 1) := by
  have h1 := h.hist.short h.ok.tnd hn
  have h2 := ks_len h.hist.ord h.hist.lt
  have h3 := wgt_le (n - 1) ks s.trail.length (by omega)
  have := Nat.two_pow_pos (n - 1 - s.trail.length)
  omega
theorem Run.undet (h : Run Φ0 s n N0 ks) (hp : Pro s s.trail.length fun _ _ => False) {v : Int} (hv : 1 ≤ v) (hvn : v < n) (h0 : rd s.value v = 0) : Undet Φ0 n := by
  obtain ⟨k, k1, k2, k3⟩ := h.cov
  have hc := (closed_all (A := fun _ => False) h.ok hp k1 (fun c hc l hl => (h.nz c hc l hl).2) fun _ h => h.elim).1
  refine ⟨v, ⟨by omega, by omega⟩, by omega, fun hd => ?_, fun hd => ?_⟩
  · have := h.hist.tt _ (hc _ hd)
    unfold ofv at this
    rw [if_neg (by omega), h0] at this
    omega
  · have := h.hist.tt _ (hc _ hd)
    unfold ofv at this
    rw [if_pos (by omega), Int.neg_neg, h0] at this
    omega
theorem Run.refuted (h : Run Φ0 s n N0 []) {i : Int} (hc : Clash s i) (hn : n ≤ 5001) (hn0 : 0 < n) (hck : checkV ((n : Int) - 1) Φ0 = 0) (hpl : s.proof.length ≤ 19999) : RefSpec ((n : Int) - 1) Φ0 (s.proof ++ [[]]) ∧ ∀ c ∈ s.proof ++ [[]], c.length < n := by
  have hall : ∀ c ∈ s.proof ++ [[]], c.length < n ∧ ∀ l ∈ c, Lit n l ∧ l ≠ 0 := fun c hc => by
    rcases List.mem_append.1 hc with hc | hc
    · exact h.pl c hc
    · rw [List.mem_singleton.1 hc]; exact ⟨hn0, fun l hl => by cases hl⟩
  refine ⟨⟨hck, by simp; omega, ?_, by simp, by simp, fun j hj => ?_⟩, fun c hc => (hall c hc).1⟩
  · unfold checkV
    rw [if_neg, if_neg]
    · rintro (h1 | h1)
      · omega
      · rw [Bool.eq_false_iff] at h1
        refine h1 (List.all_eq_true.2 fun c hc => List.all_eq_true.2 fun l hl => ?_)
        obtain ⟨⟨a, b⟩, z⟩ := (hall c hc).2 l hl
        simp only [knownB, Bool.not_eq_true', Bool.or_eq_false_iff, decide_eq_false_iff_not]
        omega
    · rintro (h1 | h1 | h1)
      · omega
      · simp at h1; omega
      · obtain ⟨c, hc, h2⟩ := List.any_eq_true.1 h1
        have := (hall c hc).1
        have := of_decide_eq_true h2
        omega
  · rw [List.length_append, List.length_singleton] at hj
    right
    by_cases e : j < s.proof.length
    · rw [List.take_append_of_le_length (by omega), List.getD_eq_getElem?_getD, List.getElem?_append_left e, ← List.getD_eq_getElem?_getD]
      exact h.chain j e
    · have : j = s.proof.length := by omega
      subst this
      rw [List.take_append_of_le_length (Nat.le_refl _), List.take_length]
      have : (s.proof ++ [[]]).getD s.proof.length [] = [] := by simp
      rw [this]
      obtain ⟨⟨c1, c2⟩, c3⟩ := hc
      obtain ⟨d, d1, d2⟩ := h.src _ c1
      exact ⟨d, d1, fun m hm => (Run.sound h.hist h.src _ (c3 m ((d2 m).1 hm))).mono (fun _ h => h) fun l ⟨q, q1, _⟩ => by cases q1⟩
theorem isB_ofv {bs : List Bool} (hb : bs = modelS s n) {l : Int} (hl : Lit n l) (hz : l ≠ 0) (h1 : ofv s l = 1) : isB bs l = true := by
  obtain ⟨a, b⟩ := hl
  have hlen : bs.length = n - 1 := by rw [hb]; simp [modelS]
  have hget : ∀ i : Nat, i < n - 1 → bs.getD i false = decide (rd s.value ((i : Int) + 1) = 1) := fun i hi => by
    rw [hb]
    simp [modelS, List.getD_eq_getElem?_getD, List.getElem?_map, List.getElem?_range hi]
  unfold isB
  by_cases c : 0 < l
  · rw [if_pos (by omega), hget _ (by omega)]
    unfold ofv at h1
    rw [if_neg (by omega)] at h1
    rw [show (((l - 1).toNat : Nat) : Int) + 1 = l by omega]
    exact decide_eq_true h1
  · rw [if_neg (by omega), if_pos (by omega), hget _ (by omega)]
    unfold ofv at h1
    rw [if_pos (by omega)] at h1
    rw [show (((-l - 1).toNat : Nat) : Int) + 1 = -l by omega]
    have : ¬ rd s.value (-l) = 1 := by omega
    simp [this]
theorem Goes.next {V1 : Lay} {F : Nat → Prop} (h : Goes g0 V w V1 w1) (hf : Fr F w1 w2) (hF : ∀ k, F k → w.heap.size ≤ k) : Goes g0 V w V1 w2 := ⟨h.fr.trans hf fun k hk => .inr (hF k hk), h.sub⟩
theorem wgt_push (A len : Nat) (ks : List Nat) : wgt A ks len ≤ wgt A (ks ++ [len]) (len + 1) := by
  have : wgt A ks len = wgt A (ks ++ [len]) len := wgt_congr fun q hq => by
    simp only [List.mem_append, List.mem_singleton]
    exact ⟨.inl, fun h => h.elim id fun e => by omega⟩
  rw [this]
  exact wgt_mono _ _ (by omega)
theorem Run.lrnLen (h : Run Φ0 s n N0 ks) {tp : Nat} {ls : List Int} {bk : Int} {Φ : List (List Int)} (hL : Lrn s n ks Φ tp ls bk) (hn0 : 0 < n) : (-(g s.trail tp) :: ls).length < n := by
  have h1 := nodup_len (m := s.trail.map fun x => -x) hL.nd fun x hx => by
    rcases List.mem_cons.1 hx with rfl | hx
    · exact List.mem_map.2 ⟨g s.trail tp, g_mem hL.tl, rfl⟩
    · exact List.mem_map.2 ⟨-x, (hL.low x hx).1, Int.neg_neg x⟩
  rw [List.length_map] at h1
  have := h.hist.short h.ok.tnd hn0
  omega
theorem foot_upd {V' : Lay} {k : Nat} (hG : Goes g0 V w1 V' w2) (hk : Sv.foot g0 V' k) : Sv.foot g0 V k ∨ w1.heap.size ≤ k := hG.sub k hk
set_option maxHeartbeats 8000000 in
theorem run_calls (h : Srch w B g0 s V) (hr : Run Φ0 s n N0 []) (hp : Pro s s.head.toNat fun _ _ => False) (hpr : s.proof = []) (limit : Int) (sure : Bool) (hsure : sure = true → n ≤ 15) (hN : N0 ≤ 20000) (hn0 : 0 < n) (hn : n ≤ 5001) (hck : checkV ((n : Int) - 1) Φ0 = 0) :
    Calls Try.prog 42 #[.pointer (some ⟨g0, 0, none⟩), .int .i64 limit, .bool sure] w fun e w' => ∃ ans mv pv, e = .returned (.agg #[.int .u8 ans, mv, pv]) ∧ OutR Φ0 n sure w' (fun k => B ≤ k) ans mv pv ∧ Fr (foot g0 V) w w' := by
  have hBw : B ≤ w.heap.size := by have := h.lt (k := g0) (.inl rfl); have := h.gB; omega
  refine calls_of_FC (N := 118) (vs := [.pointer (some ⟨g0, 0, none⟩), .int .i64 limit, .bool sure]) Try.func42 rfl Try.ntmps42 (Nat.le_of_ble_eq_true rfl) ?_
  refine FC.seq (FC.region ?_)
  refine FL.val _ _ rfl rfl (p_allocA inf36_eq inf36_zero) ?_
  refine FL.nilK ?_
  obtain ⟨rb, hrb⟩ : ∃ rb, rb = w.heap.size := ⟨_, rfl⟩
  obtain ⟨w1, hw1⟩ : ∃ w1, w1 = w.alloc (.cells (Value.agg #[.int .u8 0, .slice none 0 0, .slice none 0 0]).cells 36) := ⟨_, rfl⟩
  have f1 : Fr (fun _ => False) w w1 := by rw [hw1]; exact (Fr.refl _ w).alloc _
  have g1 : w1.heap[rb]? = some (.cells #[.int .u8 0, .slice none 0 0, .slice none 0 0] 36 (0, 0)) := by rw [hw1, hrb]; exact heap_alloc_new w _
  have s1 : rb < w1.heap.size := (Array.getElem?_eq_some_iff.1 g1).1
  rw [← hw1, ← hrb]
  have h1 := h.fr f1 fun _ h => h.elim
  clear hw1
  have hft : ∀ k, foot g0 V k → k < rb := fun k hk => by have := h.lt hk; omega
  have nrb : ∀ {V' : Lay} {w2 : World}, Goes g0 V w1 V' w2 → ∀ k, foot g0 V' k → k ≠ rb := fun hG k hk e => by
    rcases hG.sub k hk with h2 | h2
    · have := hft k h2; omega
    · omega
  -- an answer is stored, and handed back
  have fin : ∀ (w5 w6 : World) (ans : Int) (mv pv : Value), w6 = w5.setRow rb #[.int .u8 ans, mv, pv] → w5.heap[rb]? = some (.cells #[.int .u8 0, .slice none 0 0, .slice none 0 0] 36 (0, 0)) → Fr (foot g0 V) w w5 → OutR Φ0 n sure w5 (fun k => B ≤ k ∧ k ≠ rb) ans mv pv →
      w6.heap[rb]? = some (.cells #[.int .u8 ans, mv, pv] 36 (0, 0)) ∧ Fr (foot g0 V) w w6 ∧ OutR Φ0 n sure w6 (fun k => B ≤ k) ans mv pv := fun w5 w6 ans mv pv e6 hg hf ho => by
    subst e6
    have f5 : Fr (fun k => k = rb) w5 (w5.setRow rb #[.int .u8 ans, mv, pv]) := (Fr.refl _ w5).setRow _ (.inl rfl)
    refine ⟨setRow_heap w5 rb _ _ 36 (0, 0) hg, hf.setRow _ (.inr (by omega)), ?_⟩
    rcases ho with ⟨e1, e2, bs, e3, e4, e5⟩ | ⟨e1, e2, ps, e3, e4, e5⟩ | ho
    · exact .inl ⟨e1, e2, bs, (e3.fr f5 fun k hk => hk.2).mono fun k hk _ => hk.1, e4, e5⟩
    · exact .inr (.inl ⟨e1, e2, ps, (e3.fr f5 fun k hk => hk.2).mono fun k hk _ => hk.1, e4, e5⟩)
    · exact .inr (.inr ho)
  refine FC.block ?_
  refine FC.loop (σ := S × Lay × List Nat) (fun _ => [(0, .pointer (some ⟨g0, 0, none⟩)), (1, .int .i64 limit), (2, .bool sure), (6, .pointer (some ⟨rb, 0, none⟩))]) (fun x w2 => Srch w2 B g0 x.1 x.2.1 ∧ Goes g0 V w1 x.2.1 w2 ∧ Run Φ0 x.1 n N0 x.2.2 ∧ Pro x.1 x.1.head.toNat (fun _ _ => False) ∧ x.1.proof.length ≤ 19999 ∧ (x.2.2 ≠ [] → Undet Φ0 n)) (fun x => muR n x.1 x.2.2) (s, V, []) ⟨h1, Goes.refl g0 V w1, hr, hp, by rw [hpr]; simp, fun h => absurd rfl h⟩ ⟨rfl, rfl, rfl, rfl, trivial⟩ ?_
  clear hr hp h1
  rintro ⟨s0, V0, ks⟩ w2 ⟨h2, G2, hr, hp, hpl, hun⟩
  simp only at h2 G2 hr hp hpl hun ⊢
  refine FC.block ?_
  refine FC.seq (FC.region ?_)
  refine mv_ rfl rfl rfl ?_
  refine FL.call rfl rfl (p_call Try.func37 rfl rfl rfl) (propagate_calls h2 hr.ok.good) ?_
  rintro e_ w_ ⟨rfl, V1, h3, G3⟩
  refine ⟨_, rfl, ?_⟩
  refine sg_ rfl rfl rfl ?_
  refine FL.nilK ?_
  obtain ⟨hr1, hlen1, hpf1, hres⟩ := hr.prop hp (n + 1 - s0.head.toNat) (by omega)
  obtain ⟨s1', hs1⟩ : ∃ s1', s1' = (prop (n + 1 - s0.head.toNat) s0).1 := ⟨_, rfl⟩
  obtain ⟨i, hi⟩ : ∃ i, i = (prop (n + 1 - s0.head.toNat) s0).2 := ⟨_, rfl⟩
  rw [← hs1] at hr1 hlen1 hpf1 h3 hres
  rw [← hi] at hres ⊢
  have hpl1 : s1'.proof.length ≤ 19999 := by rw [hpf1]; exact hpl
  have G3 := G2.trans G3
  have hwg1 : wgt (n - 1) ks s0.trail.length ≤ wgt (n - 1) ks s1'.trail.length := wgt_mono _ _ hlen1
  clear hs1 hi h2 G2 hp
  obtain ⟨t1, t2, t3⟩ := hr1.tlen hn0
  obtain ⟨u1, u2, u3⟩ := hr.tlen hn0
  have hgr : ∀ {V' : Lay} {w' : World}, Goes g0 V w1 V' w' → w'.heap[rb]? = some (.cells #[.int .u8 0, .slice none 0 0, .slice none 0 0] 36 (0, 0)) := fun hG => (hG.fr.block rb s1 fun hk => by have := hft _ hk; omega).trans g1
  have hFw : ∀ {V' : Lay} {w' : World}, Goes g0 V w1 V' w' → Fr (foot g0 V) w w' := fun hG => (f1.mono fun _ h => h.elim).trans hG.fr fun _ h => .inl h
  have hmk := hr1.hist.mks
  have hmkl : s1'.marks.length = ks.length := by rw [hmk, List.length_map]
  obtain ⟨w3, hw3⟩ : ∃ w3, w3 = w_ := ⟨_, rfl⟩
  rw [← hw3] at h3 G3 ⊢
  clear hw3
  obtain ⟨Am, cm, hvm, _, _⟩ := h3.lenOf .marks ks.length (by simp [C, nums, hmkl])
  refine FC.block ?_
  -- a refutation is handed back
  have refd : ∀ {V' : Lay} {w4 : World} {pv : Value} {ps : List (List Int)} {wc : World}, Goes g0 V w1 V' wc → RwsC w4 (fun k => foot g0 V' k ∨ wc.heap.size ≤ k) pv ps → Fr (foot g0 V') wc w4 → RefSpec ((n : Int) - 1) Φ0 ps ∧ (∀ c ∈ ps, c.length < n) →
      w4.heap[rb]? = some (.cells #[.int .u8 0, .slice none 0 0, .slice none 0 0] 36 (0, 0)) ∧ Fr (foot g0 V) w w4 ∧ OutR Φ0 n sure w4 (fun k => B ≤ k ∧ k ≠ rb) 2 (.slice none 0 0) pv := fun {V' w4 pv ps wc} hG hrw hf hspec => by
    have hsz : rb < wc.heap.size := Nat.lt_of_lt_of_le s1 hG.fr.size
    refine ⟨(hf.block rb hsz fun hk => nrb hG rb hk rfl).trans (hgr hG), (hFw hG).trans hf fun k hk => ?_, .inr (.inl ⟨rfl, rfl, ps, hrw.mono fun k hk _ => ?_, hspec⟩)⟩
    · rcases hG.sub k hk with h2 | h2
      · exact .inl h2
      · exact .inr (by omega)
    · rcases hk with hk | hk
      · refine ⟨?_, nrb hG k hk⟩
        rcases hG.sub k hk with h2 | h2
        · exact h.ge h2
        · omega
      · exact ⟨by omega, by omega⟩
  rcases hres with ⟨ei, hhd, hp1⟩ | ⟨hi0, hc⟩
  · -- no conflict
    subst ei
    refine FC.seq (FC.region ?_)
    refine mv_ rfl rfl rfl ?_
    refine FL.pur rfl rfl (p_geq rfl rfl (show decide (0 ≤ (-1 : Int)) = false from rfl)) ?_
    refine mv_ rfl rfl rfl ?_
    refine FL.off rfl rfl ?_
    refine FL.off rfl rfl ?_
    refine FL.off rfl rfl ?_
    refine FL.off rfl rfl ?_
    refine FL.off rfl rfl ?_
    refine FL.off rfl rfl ?_
    refine FL.pur rfl rfl (p_pick_f rfl rfl) ?_
    refine sg_ rfl rfl rfl ?_
    refine FL.nilK ?_
    refine FC.cond_f rfl ?_
    refine FC.seq (FC.region ?_)
    refine mv_ rfl rfl rfl ?_
    refine FL.pur rfl rfl (p_geq rfl rfl (show decide (0 ≤ (-1 : Int)) = false from rfl)) ?_
    refine sg_ rfl rfl rfl ?_
    refine FL.nilK ?_
    refine FC.cond_f rfl ?_
    refine FC.seq (FC.region ?_)
    refine mv_ rfl rfl rfl ?_
    refine FL.call rfl rfl (p_call Try.func55 rfl rfl rfl) (next_calls h3 hr1.ok.good.value hr1.act hr1.atm hn0 (by omega)) ?_
    rintro e_ w_ ⟨r, rfl, hnx, f4⟩
    refine ⟨_, rfl, ?_⟩
    refine sg_ rfl rfl rfl ?_
    refine FL.nilK ?_
    have h4 := h3.fr f4 fun _ h => h.elim
    have G4 : Goes g0 V w1 V1 w_ := G3.next f4 fun _ h => h.elim
    refine FC.seq ?_
    rcases hnx with ⟨rfl, hall⟩ | ⟨hr0, hrn, hrz⟩
    · refine FC.seq (FC.region ?_)
      refine mv_ rfl rfl rfl ?_
      refine FL.pur rfl rfl (p_eql rfl rfl (decide_eq_true rfl)) ?_
      refine FL.nilK ?_
      refine FC.cond_t rfl ?_
      refine FC.seq (FC.region ?_)
      refine mv_ rfl rfl rfl ?_
      refine FL.call rfl rfl (p_call Try.func56 rfl rfl rfl) (found_calls h4 hr1.ok.good.value hr1.atm hn0 (by omega)) ?_
      rintro e_ w_ ⟨mv, rfl, hbr, f5⟩
      refine ⟨_, rfl, ?_⟩
      have hg5 := (f5.block rb (Nat.lt_of_lt_of_le s1 G4.fr.size) fun h => h).trans (hgr G4)
      have hO : OutR Φ0 n sure w_ (fun k => B ≤ k ∧ k ≠ rb) 1 mv (.slice none 0 0) := .inl ⟨rfl, rfl, modelS s1' n, hbr.mono fun k hk _ => ⟨by have := G4.fr.size; omega, by have := G4.fr.size; omega⟩, modelS_length _ _, List.all_eq_true.2 fun c hc => by { obtain ⟨l, l1, l2⟩ := hr1.model hp1 hall c hc; exact List.any_eq_true.2 ⟨l, l1, isB_ofv rfl (hr1.nz c hc l l1).1 (hr1.nz c hc l l1).2 l2⟩ }⟩
      have hmv1 : mv.oneCell' = true := by { obtain ⟨A, c, rfl, _⟩ := hbr; rfl }
      refine FL.sto _ rfl (p_storeA rfl rfl hg5 inf36_size rfl (all3 rfl hmv1 rfl)) ?_
      refine FL.nilK ?_
      refine FC.ret ?_
      repeat with_reducible first | refine thn_ret ?_ | refine blk_ret ?_ | refine nog_ret ?_
      obtain ⟨z1, z2, z3⟩ := fin _ _ 1 mv (.slice none 0 0) rfl hg5 ((hFw G4).trans f5 fun _ h => h.elim) hO
      exact retC Try.results42 rfl z1 Try.underlying36 rfl inf36_size ⟨1, mv, _, rfl, z3, z2⟩
    · refine FC.seq (FC.region ?_)
      refine mv_ rfl rfl rfl ?_
      refine FL.pur rfl rfl (p_eql rfl rfl (decide_eq_false (by omega))) ?_
      refine FL.nilK ?_
      refine FC.cond_f rfl (FC.skip (thn_normal ?_))
      have h5 := h4.drew
      have G5 := G4.drew
      obtain ⟨At, ct, hvt, _, _⟩ := h5.lenOf .trail s1'.trail.length (by simp [C, nums])
      have hSS := And.intro h5.f_marks (cellEq h5.f_trail hvt)
      have hml : (C s1' V1 .marks).length < 1099511627776 := by simp only [C, nums, List.length_map]; omega
      refine FC.seq (FC.draw (fun w => w.cell? ⟨g0, 8, none⟩ = some (V1 .marks) ∧ w.cell? ⟨g0, 7, none⟩ = some (.slice At s1'.trail.length ct)) [11, 14] (bA 15 0) (by kernel_rfl) rfl rfl hSS ?_)
      refine FA.pur (i := 0) (bA 15 1) rfl (by kernel_rfl) rfl rfl (p_move rfl) ?_
      refine FA.pur (i := 1) (bA 15 3) rfl (by kernel_rfl) rfl rfl (p_move rfl) ?_
      refine FA.pur (i := 2) (bA 15 7) rfl (by kernel_rfl) rfl rfl (p_nilCheck rfl) ?_
      refine FA.pur (i := 3) (bA 15 15) rfl (by kernel_rfl) rfl rfl (fld67_8 rfl) ?_
      refine FA.pur (i := 5) (bA 15 47) rfl (by kernel_rfl) rfl rfl (p_move rfl) ?_
      refine FA.pur (i := 6) (bA 15 111) rfl (by kernel_rfl) rfl rfl (p_nilCheck rfl) ?_
      refine FA.pur (i := 7) (bA 15 239) rfl (by kernel_rfl) rfl rfl (fld67_7 rfl) ?_
      refine FA.lod (i := 4) (bA 15 255) rfl (by kernel_rfl) rfl rfl hSS (fun _ hs => p_load rfl Try.underlying41 rfl hs.1) ?_
      refine FA.lod (i := 8) (bA 15 511) rfl (by kernel_rfl) rfl rfl hSS (fun _ hs => p_load rfl Try.underlying41 rfl hs.2) ?_
      refine FA.pur (i := 9) (bA 15 1023) rfl (by kernel_rfl) rfl rfl (p_len rfl Try.underlying41) ?_
      refine FA.one (i := 10) _ _ (bA 15 2047) rfl (by kernel_rfl) (by decide) rfl rfl (bld41 rfl rfl) ⟨cell_alloc hSS.1 _, cell_alloc hSS.2 _⟩ ?_
      refine FA.lastG (i := 11) _ (bA 15 4095) rfl (by kernel_rfl) (by decide) rfl rfl (h5.app3 .marks rfl hml (s1'.trail.length : Int) rfl rfl) ?_
      intro v1 w6 hgw
      refine FA.pur (i := 12) (bA 15 8191) rfl (by kernel_rfl) rfl rfl (p_nilCheck rfl) ?_
      refine FA.pur (i := 13) (bA 15 16383) rfl (by kernel_rfl) rfl rfl (fld67_8 rfl) ?_
      refine FA.lastS (i := 14) _ (bA 15 32767) rfl (by kernel_rfl) (by decide) rfl (st41 rfl rfl (own_one hgw.own) (cell_of_row _ _ 8 _ _ _ (h5.objG hgw)) (blk_frozen (h5.objG hgw) 8)) ?_
      refine FA.doneK (by kernel_rfl) ?_
      obtain ⟨h6, G6⟩ := h5.pushMarks (s1'.trail.length : Int) hgw
      have G6 := G5.trans G6
      obtain ⟨D1, D2⟩ := hr1.decide_ hp1 hhd hr0 hrn hrz
      refine FC.region ?_
      refine mv_ rfl rfl rfl ?_
      refine mv_ rfl rfl rfl ?_
      refine FL.pur rfl rfl (p_neg rfl (wr (by omega) (by omega))) ?_
      refine FL.call rfl rfl (p_call Try.func46 rfl rfl rfl) (set_calls h6 (-r) (-1) (by show -(s1'.value.length : Int) < -r; rw [hr1.ok.good.value]; omega) (by show -r < (s1'.value.length : Int); omega) (by show s1'.level.length = s1'.value.length; rw [hr1.hist.llen, hr1.hist.vlen]) (by show s1'.reason.length = s1'.value.length; rw [hr1.hist.rlen, hr1.hist.vlen]) (by show s1'.trail.length < _; omega)) ?_
      rintro e_ w_ ⟨rfl, v', h7, G7⟩
      refine ⟨_, rfl, ?_⟩
      refine FL.nil ?_
      refine blk_normal (blk_normal ?_)
      obtain ⟨x1, x2, x3⟩ := D1.tlen hn0
      have hws := wgt_push (n - 1) s1'.trail.length ks
      have hl2 : (setS (pushS s1') (-r) (-1)).trail.length = s1'.trail.length + 1 := by show (s1'.trail ++ [-r]).length = _; simp
      refine ⟨(setS (pushS s1') (-r) (-1), upd (upd V1 .marks v1) .trail v', ks ++ [s1'.trail.length]), ⟨rfl, rfl, rfl, rfl, trivial⟩, ⟨h7, G6.trans G7, D1, D2, hpl1, fun _ => hr1.undet hp1 hr0 hrn hrz⟩, ?_⟩
      show muR n (setS (pushS s1') (-r) (-1)) (ks ++ [s1'.trail.length]) < muR n s0 ks
      unfold muR
      rw [hl2] at x3 ⊢
      refine mu_lt (.inr ⟨by omega, ?_⟩) (by omega)
      rw [List.length_append, List.length_singleton] at x2 ⊢
      omega
  · -- a conflict
    have hic : i.toNat < s1'.clauses.length := hc.1.1
    by_cases hk0 : ks.length = 0
    · have e0 : ks = [] := List.length_eq_zero_iff.1 hk0
      subst e0
      refine FC.seq (FC.region ?_)
      refine mv_ rfl rfl rfl ?_
      refine FL.pur rfl rfl (p_geq rfl rfl (decide_eq_true hi0)) ?_
      refine mv_ rfl rfl rfl ?_
      refine mv_ rfl rfl rfl ?_
      refine FL.pur rfl rfl (p_nilCheck rfl) ?_
      refine FL.pur rfl rfl (fld67_8 rfl) ?_
      refine FL.val _ _ rfl rfl (p_load rfl Try.underlying41 rfl (cellEq h3.f_marks hvm)) ?_
      refine FL.pur rfl rfl (p_len rfl Try.underlying41) ?_
      refine FL.pur rfl rfl (p_eql rfl rfl (decide_eq_true rfl)) ?_
      refine FL.pur rfl rfl (p_pick_t rfl rfl) ?_
      refine sg_ rfl rfl rfl ?_
      refine FL.nilK ?_
      refine FC.cond_t rfl ?_
      refine FC.seq (FC.region ?_)
      refine mv_ rfl rfl rfl ?_
      refine FL.call rfl rfl (p_call Try.func41 rfl rfl rfl) (refuted_calls h3 (by omega)) ?_
      rintro e_ w_ ⟨pv, rfl, hrw, f4⟩
      refine ⟨_, rfl, ?_⟩
      obtain ⟨y1, y2, y3⟩ := refd G3 hrw f4 (hr1.refuted hc hn hn0 hck hpl1)
      have hpv1 : pv.oneCell' = true := by { obtain ⟨⟨A, c, rfl, _⟩, _⟩ := hrw; rfl }
      refine FL.sto _ rfl (p_storeA rfl rfl y1 inf36_size rfl (all3 rfl rfl hpv1)) ?_
      refine FL.nilK ?_
      refine FC.ret ?_
      repeat with_reducible first | refine thn_ret ?_ | refine blk_ret ?_ | refine nog_ret ?_
      obtain ⟨z1, z2, z3⟩ := fin _ _ 2 (.slice none 0 0) pv rfl y1 y2 y3
      exact retC Try.results42 rfl z1 Try.underlying36 rfl inf36_size ⟨2, _, pv, rfl, z3, z2⟩
    have hk1 : 0 < ks.length := by omega
    have hun := hun fun e => hk0 (by rw [e]; rfl)
    refine FC.seq (FC.region ?_)
    refine mv_ rfl rfl rfl ?_
    refine FL.pur rfl rfl (p_geq rfl rfl (decide_eq_true hi0)) ?_
    refine mv_ rfl rfl rfl ?_
    refine mv_ rfl rfl rfl ?_
    refine FL.pur rfl rfl (p_nilCheck rfl) ?_
    refine FL.pur rfl rfl (fld67_8 rfl) ?_
    refine FL.val _ _ rfl rfl (p_load rfl Try.underlying41 rfl (cellEq h3.f_marks hvm)) ?_
    refine FL.pur rfl rfl (p_len rfl Try.underlying41) ?_
    refine FL.pur rfl rfl (p_eql rfl rfl (decide_eq_false (by omega))) ?_
    refine FL.pur rfl rfl (p_pick_t rfl rfl) ?_
    refine sg_ rfl rfl rfl ?_
    refine FL.nilK ?_
    refine FC.cond_f rfl ?_
    refine FC.seq (FC.region ?_)
    refine mv_ rfl rfl rfl ?_
    refine FL.pur rfl rfl (p_geq rfl rfl (decide_eq_true hi0)) ?_
    refine sg_ rfl rfl rfl ?_
    refine FL.nilK ?_
    refine FC.cond_t rfl ?_
    obtain ⟨Ap, cp, hvp, _, _⟩ := h3.lenOf .proof s1'.proof.length (by simp [C, rowsOf_length])
    -- no answer is stored
    have hardO : sure = false → OutR Φ0 n sure w3 (fun k => B ≤ k ∧ k ≠ rb) 3 (.slice none 0 0) (.slice none 0 0) := fun e => .inr (.inr ⟨rfl, ⟨e, hun⟩, rfl, rfl⟩)
    refine FC.cut (σ := Unit) (fun _ => [(0, .pointer (some ⟨g0, 0, none⟩)), (1, .int .i64 limit), (2, .bool sure), (6, .pointer (some ⟨rb, 0, none⟩)), (7, .int .i64 i)]) (fun _ w4 => w4 = w3 ∧ (sure = false → s1'.proof.length < 19999)) ?_ ?_
    · cases sure with
      | true =>
        refine FC.seq (FC.region ?_)
        refine mv_ rfl rfl rfl ?_
        refine FL.pur rfl rfl (p_not rfl) ?_
        refine mv_ rfl rfl rfl ?_
        refine FL.off rfl rfl ?_
        refine FL.off rfl rfl ?_
        refine FL.off rfl rfl ?_
        refine FL.off rfl rfl ?_
        refine FL.off rfl rfl ?_
        refine FL.off rfl rfl ?_
        refine FL.off rfl rfl ?_
        refine FL.off rfl rfl ?_
        refine FL.off rfl rfl ?_
        refine FL.off rfl rfl ?_
        refine FL.off rfl rfl ?_
        refine FL.off rfl rfl ?_
        refine FL.off rfl rfl ?_
        refine FL.off rfl rfl ?_
        refine FL.off rfl rfl ?_
        refine FL.pur rfl rfl (p_pick_f rfl rfl) ?_
        refine FL.nilK ?_
        refine FC.cond_f rfl (FC.skip ?_)
        exact ⟨(), ⟨rfl, rfl, rfl, rfl, rfl, trivial⟩, rfl, fun h => by cases h⟩
      | false =>
        by_cases hl : limit ≤ (s1'.proof.length : Int)
        · refine FC.seq (FC.region ?_)
          refine mv_ rfl rfl rfl ?_
          refine FL.pur rfl rfl (p_not rfl) ?_
          refine mv_ rfl rfl rfl ?_
          refine mv_ rfl rfl rfl ?_
          refine FL.pur rfl rfl (p_nilCheck rfl) ?_
          refine FL.pur rfl rfl (fld67_10 rfl) ?_
          refine FL.val _ _ rfl rfl (p_load rfl Try.underlying22 rfl (cellEq h3.f_proof hvp)) ?_
          refine FL.pur rfl rfl (p_len rfl Try.underlying22) ?_
          refine mv_ rfl rfl rfl ?_
          refine FL.pur rfl rfl (p_geq rfl rfl (decide_eq_true hl)) ?_
          refine mv_ rfl rfl rfl ?_
          refine FL.off rfl rfl ?_
          refine FL.off rfl rfl ?_
          refine FL.off rfl rfl ?_
          refine FL.off rfl rfl ?_
          refine FL.off rfl rfl ?_
          refine FL.off rfl rfl ?_
          refine FL.pur rfl rfl (p_pick_t rfl rfl) ?_
          refine FL.pur rfl rfl (p_pick_t rfl rfl) ?_
          refine FL.nilK ?_
          refine FC.cond_t rfl ?_
          refine FC.seq (FC.region ?_)
          refine FL.pur rfl rfl (p_build (parts := [(0, .const (.int .u8 3))]) (fun a ha => rfl) (built36a 3)) ?_
          refine FL.sto _ rfl (p_storeA rfl rfl (hgr G3) inf36_size rfl (by simp [Value.oneCell'])) ?_
          refine FL.nilK ?_
          refine FC.ret ?_
          repeat with_reducible first | refine thn_ret ?_ | refine blk_ret ?_ | refine nog_ret ?_
          obtain ⟨z1, z2, z3⟩ := fin _ _ 3 (.slice none 0 0) (.slice none 0 0) rfl (hgr G3) (hFw G3) (hardO rfl)
          exact retC Try.results42 rfl z1 Try.underlying36 rfl inf36_size ⟨3, _, _, rfl, z3, z2⟩
        by_cases hl2 : (19999 : Int) ≤ (s1'.proof.length : Int)
        · refine FC.seq (FC.region ?_)
          refine mv_ rfl rfl rfl ?_
          refine FL.pur rfl rfl (p_not rfl) ?_
          refine mv_ rfl rfl rfl ?_
          refine mv_ rfl rfl rfl ?_
          refine FL.pur rfl rfl (p_nilCheck rfl) ?_
          refine FL.pur rfl rfl (fld67_10 rfl) ?_
          refine FL.val _ _ rfl rfl (p_load rfl Try.underlying22 rfl (cellEq h3.f_proof hvp)) ?_
          refine FL.pur rfl rfl (p_len rfl Try.underlying22) ?_
          refine mv_ rfl rfl rfl ?_
          refine FL.pur rfl rfl (p_geq rfl rfl (decide_eq_false hl)) ?_
          refine mv_ rfl rfl rfl ?_
          refine mv_ rfl rfl rfl ?_
          refine FL.pur rfl rfl (p_nilCheck rfl) ?_
          refine FL.pur rfl rfl (fld67_10 rfl) ?_
          refine FL.val _ _ rfl rfl (p_load rfl Try.underlying22 rfl (cellEq h3.f_proof hvp)) ?_
          refine FL.pur rfl rfl (p_len rfl Try.underlying22) ?_
          refine FL.pur rfl rfl (p_geq rfl rfl (decide_eq_true hl2)) ?_
          refine FL.pur rfl rfl (p_pick_f rfl rfl) ?_
          refine FL.pur rfl rfl (p_pick_t rfl rfl) ?_
          refine FL.nilK ?_
          refine FC.cond_t rfl ?_
          refine FC.seq (FC.region ?_)
          refine FL.pur rfl rfl (p_build (parts := [(0, .const (.int .u8 3))]) (fun a ha => rfl) (built36a 3)) ?_
          refine FL.sto _ rfl (p_storeA rfl rfl (hgr G3) inf36_size rfl (by simp [Value.oneCell'])) ?_
          refine FL.nilK ?_
          refine FC.ret ?_
          repeat with_reducible first | refine thn_ret ?_ | refine blk_ret ?_ | refine nog_ret ?_
          obtain ⟨z1, z2, z3⟩ := fin _ _ 3 (.slice none 0 0) (.slice none 0 0) rfl (hgr G3) (hFw G3) (hardO rfl)
          exact retC Try.results42 rfl z1 Try.underlying36 rfl inf36_size ⟨3, _, _, rfl, z3, z2⟩
        · refine FC.seq (FC.region ?_)
          refine mv_ rfl rfl rfl ?_
          refine FL.pur rfl rfl (p_not rfl) ?_
          refine mv_ rfl rfl rfl ?_
          refine mv_ rfl rfl rfl ?_
          refine FL.pur rfl rfl (p_nilCheck rfl) ?_
          refine FL.pur rfl rfl (fld67_10 rfl) ?_
          refine FL.val _ _ rfl rfl (p_load rfl Try.underlying22 rfl (cellEq h3.f_proof hvp)) ?_
          refine FL.pur rfl rfl (p_len rfl Try.underlying22) ?_
          refine mv_ rfl rfl rfl ?_
          refine FL.pur rfl rfl (p_geq rfl rfl (decide_eq_false hl)) ?_
          refine mv_ rfl rfl rfl ?_
          refine mv_ rfl rfl rfl ?_
          refine FL.pur rfl rfl (p_nilCheck rfl) ?_
          refine FL.pur rfl rfl (fld67_10 rfl) ?_
          refine FL.val _ _ rfl rfl (p_load rfl Try.underlying22 rfl (cellEq h3.f_proof hvp)) ?_
          refine FL.pur rfl rfl (p_len rfl Try.underlying22) ?_
          refine FL.pur rfl rfl (p_geq rfl rfl (decide_eq_false hl2)) ?_
          refine FL.pur rfl rfl (p_pick_f rfl rfl) ?_
          refine FL.pur rfl rfl (p_pick_t rfl rfl) ?_
          refine FL.nilK ?_
          refine FC.cond_f rfl (FC.skip ?_)
          exact ⟨(), ⟨rfl, rfl, rfl, rfl, rfl, trivial⟩, rfl, fun _ => by omega⟩
    rintro - w4 ⟨rfl, hfew⟩
    have hpl2 : s1'.proof.length < 19999 := by
      cases sure with
      | false => exact hfew rfl
      | true =>
        have h15 := hsure rfl
        have := hr1.few
        have h14 : 2 ^ (n - 1) ≤ 2 ^ 14 := Nat.pow_le_pow_right (by omega) (by omega)
        have : (2 : Nat) ^ 14 = 16384 := rfl
        omega
    clear hfew hardO
    refine FC.seq (FC.region ?_)
    refine mv_ rfl rfl rfl ?_
    refine mv_ rfl rfl rfl ?_
    refine FL.call rfl rfl (p_call Try.func52 rfl rfl rfl) (learn_calls h3 hr1.ok hr1.hist hr1.src hk1 hi0 hc hr1.atm hr1.act (by omega)) ?_
    rintro e_ w_ ⟨v, bk, tp, ls, act, rfl, hL, h5, hal, G5, ho, hvn⟩
    refine ⟨_, rfl, ?_⟩
    refine mv_ rfl rfl rfl ?_
    refine FL.pur rfl rfl (p_extract rfl rfl) ?_
    refine FL.pur rfl rfl (p_extract rfl rfl) ?_
    refine sg_ rfl rfl rfl ?_
    refine sg_ rfl rfl rfl ?_
    refine FL.nilK ?_
    obtain ⟨w5, hw5⟩ : ∃ w5, w5 = w_ := ⟨_, rfl⟩
    rw [← hw5] at h5 G5 ho ⊢
    clear hw5
    have hsz5 : w1.heap.size ≤ w4.heap.size := G3.fr.size
    have G5 := G3.trans G5
    obtain ⟨c, hcc⟩ : ∃ c, c = -(g s1'.trail tp) :: ls := ⟨_, rfl⟩
    have hclen : c.length < n := by rw [hcc]; exact hr1.lrnLen hL hn0
    have hc0 : 0 < c.length := by rw [hcc]; simp
    have hclit : ∀ l ∈ c, Lit n l := fun l hl => by rw [hcc] at hl; exact (hL.lit l hl).1
    have hbk : 0 ≤ bk ∧ bk < ks.length := by
      rcases hL.bk with ⟨_, e⟩ | ⟨l, l1, l2⟩
      · omega
      · have := hL.low l l1; omega
    obtain ⟨j, k, hB⟩ := hr1.back (c := c) (act := act) hbk.1 hbk.2
    rw [← hcc] at ho
    obtain ⟨bq, cq, rfl, _, _⟩ := ho.form hc0
    have hbqn : w1.heap.size ≤ bq := Nat.le_trans hsz5 (hvn bq rfl)
    have h6 := h5.drew
    have G6 := G5.drew
    have ho6 : Own w5.drew B g0 V1 (.slice (some ⟨bq, 0, none⟩) c.length cq) c := ⟨ownsRow_same ho.own fun _ _ => rfl, ho.apart⟩
    have hSS := h6.f_proof
    have hplen : (C { s1' with active := act } V1 .proof).length < 1099511627776 := by simp only [C, rowsOf_length]; show s1'.proof.length < _; omega
    refine FC.seq (FC.draw (fun w => w.cell? ⟨g0, 10, none⟩ = some (V1 .proof)) [8, 11] (bA 12 0) (by kernel_rfl) rfl rfl hSS ?_)
    refine FA.pur (i := 0) (bA 12 1) rfl (by kernel_rfl) rfl rfl (p_move rfl) ?_
    refine FA.pur (i := 1) (bA 12 3) rfl (by kernel_rfl) rfl rfl (p_move rfl) ?_
    refine FA.pur (i := 2) (bA 12 7) rfl (by kernel_rfl) rfl rfl (p_nilCheck rfl) ?_
    refine FA.pur (i := 3) (bA 12 15) rfl (by kernel_rfl) rfl rfl (fld67_10 rfl) ?_
    refine FA.pur (i := 5) (bA 12 47) rfl (by kernel_rfl) rfl rfl (p_move rfl) ?_
    refine FA.lod (i := 4) (bA 12 63) rfl (by kernel_rfl) rfl rfl hSS (fun _ hs => p_load rfl Try.underlying22 rfl hs) ?_
    refine FA.oneC (i := 6) (bA 12 127) rfl (by kernel_rfl) (by decide) rfl rfl (p_call Try.func53 rfl rfl rfl) (clone_calls ho6 hc0 (by omega)) ?_
    rintro e7 w7 ⟨v1, rfl, ho1, f7⟩
    refine ⟨_, rfl, f7.cell hSS fun h => h, ?_⟩
    have h7 := h6.fr f7 fun _ h => h.elim
    have G7 := G6.next f7 fun _ h => h.elim
    have hv1c : v1.cells = #[v1] ∧ v1.oneCell' = true := by { obtain ⟨A', c', rfl⟩ := own_slice ho1; exact ⟨rfl, rfl⟩ }
    refine FA.one (i := 7) _ _ (bA 12 255) rfl (by kernel_rfl) (by decide) rfl rfl (bld22 rfl hv1c.1) (cell_alloc (f7.cell hSS fun h => h) _) ?_
    refine FA.lastG (i := 8) _ (bA 12 511) rfl (by kernel_rfl) (by decide) rfl rfl (h7.app41 .proof rfl hplen _ hv1c.2 rfl rfl) ?_
    intro vp w8 hgp
    refine FA.pur (i := 9) (bA 12 1023) rfl (by kernel_rfl) rfl rfl (p_nilCheck rfl) ?_
    refine FA.pur (i := 10) (bA 12 2047) rfl (by kernel_rfl) rfl rfl (fld67_10 rfl) ?_
    refine FA.lastS (i := 11) _ (bA 12 4095) rfl (by kernel_rfl) (by decide) rfl (st22 rfl rfl (own_one hgp.own) (cell_of_row _ _ 10 _ _ _ (h7.objG hgp)) (blk_frozen (h7.objG hgp) 10)) ?_
    refine FA.doneK (by kernel_rfl) ?_
    have hv1b : ∀ k, v1.ownBlock = some k → w5.drew.heap.size ≤ k ∧ k < w7.heap.size := fun k hk => ho1.lt k hk
    have hoC : Own w7 B g0 V1 v1 c := ⟨ownsRow_base ho1 (by have := h6.lt (k := g0) (.inl rfl); have := h6.gB; omega), fun k hk hf => by have := (hv1b k hk).1; have := h6.lt hf; omega⟩
    obtain ⟨h8, sub8, fr8⟩ := h7.pushProof hoC hgp
    obtain ⟨V8, hV8⟩ : ∃ V8, V8 = upd (upd V1 .proof vp) (.prow s1'.proof.length) v1 := ⟨_, rfl⟩
    have eV8 : upd (upd V1 .proof vp) (.prow ({ s1' with active := act } : S).proof.length) v1 = V8 := hV8.symm
    rw [eV8] at h8 sub8
    obtain ⟨w9, hw9⟩ : ∃ w9, w9 = w8.setCell ⟨g0, 10, none⟩ vp := ⟨_, rfl⟩
    rw [← hw9] at h8 fr8 ⊢
    clear hw9 hV8 eV8
    have G8 : Goes g0 V w1 V8 w9 := G7.thenX (X := fun k => v1.ownBlock = some k) ⟨fr8.mono fun k hk => .inl (.inl hk), sub8⟩ fun k hk => by
      have := (hv1b k hk).1
      have := G6.fr.size
      omega
    have hbq5 : bq < w5.drew.heap.size := ho6.lt rfl
    have ho8 : Own w9 B g0 V8 (.slice (some ⟨bq, 0, none⟩) c.length cq) c := by
      refine ⟨ownsRow_same ho6.own fun k hk => ?_, fun k hk hf => ?_⟩
      · have hk' : bq = k := by simpa [Value.ownBlock] using hk
        subst hk'
        exact (fr8.block bq (by have := f7.size; omega) fun hf => ho6.apart bq rfl hf).trans (f7.block bq hbq5 fun h => h)
      · have hk' : bq = k := by simpa [Value.ownBlock] using hk
        subst hk'
        rcases sub8 bq hf with h9 | h9 | h9
        · exact ho6.apart bq rfl h9
        · have := (hv1b bq h9).1; omega
        · have := f7.size; omega
    clear ho6 hoC ho1 hgp h7 h6 G6 G7 fr8 sub8 f7 hSS h5 G5 ho
    refine FC.seq (FC.region ?_)
    refine mv_ rfl rfl rfl ?_
    refine mv_ rfl rfl rfl ?_
    refine mv_ rfl rfl rfl ?_
    refine FL.call rfl rfl (p_call Try.func54 rfl rfl rfl) (watched_calls h8 ho8 bk (by show s1'.level.length = n; exact hr1.hist.llen) (by omega) hclit hc0) ?_
    rintro e_ w_ ⟨rfl, c', hw, ho10, f10⟩
    refine ⟨_, rfl, ?_⟩
    refine FL.nilK ?_
    have h10 := h8.fr f10 fun k hk hf => ho8.apart k hk hf
    have G10 := G8.next f10 fun k hk => (by have hk' : bq = k := by simpa [Value.ownBlock] using hk
                                            omega)
    have hrdm : rd s1'.marks bk = ((ks.getD j 0 : Nat) : Int) := by
      rw [hmk, hB.bkj]
      simp [rd, List.getD_eq_getElem?_getD, List.getElem?_eq_getElem hB.jl]
    have hkjl : ks.getD j 0 < s1'.trail.length := hr1.hist.lt _ (mem_getD hB.jl)
    refine FC.seq (FC.region ?_)
    refine mv_ rfl rfl rfl ?_
    refine mv_ rfl rfl rfl ?_
    refine FL.call rfl rfl (p_call Try.func48 rfl rfl rfl) (undo_calls h10 bk (n := n) hr1.ok.good.value hbk.1 (by show bk < (s1'.marks.length : Int); omega) (by show 0 ≤ rd s1'.marks bk; omega) hr1.ok.good.trl (by show rd s1'.marks bk ≤ (s1'.trail.length : Int); omega)) ?_
    rintro e_ w_ ⟨rfl, V11, h11, G11⟩
    refine ⟨_, rfl, ?_⟩
    refine FL.nilK ?_
    have h11 : Srch w_ B g0 (gone s1' act c bk) V11 := h11
    have ho11 := ho10.goes G11
    have G11 := G10.trans G11
    obtain ⟨sC, hsC⟩ : ∃ sC, sC = gone s1' act c bk := ⟨_, rfl⟩
    rw [← hsC] at h11
    rw [hcc] at hsC hB hw
    have hw : WatR s1' bk (-(g s1'.trail tp) :: ls) c' := hw
    obtain ⟨R1, R2, R3, R4, R5⟩ := hr1.learn hk1 hL hw hal (by omega) (by omega) hB
    rw [← hsC] at R1 R2 R3 R4 R5
    have hBok := hB.ok
    rw [← hsC] at hBok
    have hclC : sC.clauses.length = s1'.clauses.length := by rw [hsC, hB.cls]
    have hperm : c'.length = c.length ∧ ∀ l ∈ c', l ∈ c := by
      rw [hcc]
      rcases hw with ⟨k1, a1, a2, _, a4⟩ | ⟨_, e⟩
      · have hp := (Mix.swap (a := 0) (b := (-(g s1'.trail tp) :: ls).length) (-(g s1'.trail tp) :: ls) 1 k1 (by omega) (by omega) (by omega) a2 (Nat.le_refl _)).perm
        rw [a4]
        exact ⟨hp.length_eq, fun l hl => hp.mem_iff.1 hl⟩
      · rw [e]; exact ⟨rfl, fun _ h => h⟩
    obtain ⟨Ac, cc, hvc, _, _⟩ := h11.lenOf .clauses sC.clauses.length (by simp [C, rowsOf_length])
    refine FC.seq (FC.region ?_)
    refine mv_ rfl rfl rfl ?_
    refine FL.pur rfl rfl (p_nilCheck rfl) ?_
    refine FL.pur rfl rfl (fld67_1 rfl) ?_
    refine FL.val _ _ rfl rfl (p_load rfl Try.underlying22 rfl (cellEq h11.f_clauses hvc)) ?_
    refine FL.pur rfl rfl (p_len rfl Try.underlying22) ?_
    refine sg_ rfl rfl rfl ?_
    refine FL.nilK ?_
    have ka := add_callsS h11 hBok.good.fine ho11 (fun l hl => hclit l (hperm.2 l hl)) fun l hl => by
      obtain ⟨q, q1, rfl⟩ := List.mem_iff_getElem.1 hl
      have := le_sum sC.watch q
      rw [List.getD_eq_getElem?_getD, List.getElem?_eq_getElem q1] at this
      have := hBok.good.ws
      simp only [Option.getD_some] at *
      omega
    rw [R1] at ka
    refine FC.seq ?_
    refine FC.seq (FC.region ?_)
    refine mv_ rfl rfl rfl ?_
    refine mv_ rfl rfl rfl ?_
    refine FL.call rfl rfl (p_call Try.func36 rfl rfl rfl) (ka) ?_
    rintro e_ w_ ⟨rfl, V12, h12, GX, hVc⟩
    refine ⟨_, rfl, ?_⟩
    refine FL.pur rfl rfl (p_not rfl) ?_
    refine FL.nilK ?_
    refine FC.cond_f rfl (FC.skip (thn_normal ?_))
    have G12 := G11.thenX GX fun k hk => (by have hk' : bq = k := by simpa [Value.ownBlock] using hk
                                             omega)
    obtain ⟨x1, x2, x3⟩ := R2.tlen hn0
    have hmu : muR n (learnS sC c') (ks.take j) < muR n s0 ks := by
      unfold muR
      exact mu_lt (.inl (by omega)) (by omega)
    have hpl4 : (learnS sC c').proof.length ≤ 19999 := by rw [R5, List.length_append, List.length_singleton]; omega
    refine FC.seq (FC.region ?_)
    refine mv_ rfl rfl rfl ?_
    refine FL.pur rfl rfl (p_len rfl Try.underlying41) ?_
    refine FL.pur rfl rfl (p_gtr rfl rfl rfl) ?_
    refine FL.nilK ?_
    refine FC.cond (decide ((1 : Int) < (c.length : Int))) rfl (fun hcc2 => ?_) (fun hcc2 => FC.skip ?_)
    · have hc2 : 1 < c'.length := by have := of_decide_eq_true hcc2; omega
      have eL : learnS sC c' = setS (addS sC c').1 (rd c' 0) sC.clauses.length := by unfold learnS; rw [if_pos hc2]
      have hcw : (addS sC c').1.clauses = sC.clauses ++ [c'] ∧ (addS sC c').1.value = sC.value ∧ (addS sC c').1.level = sC.level ∧ (addS sC c').1.reason = sC.reason ∧ (addS sC c').1.trail = sC.trail := by
        match c', hc2 with
        | a :: b :: r, _ => exact ⟨rfl, rfl, rfl, rfl, rfl⟩
      have hcell := h12.cell (.clause sC.clauses.length) (hVc (by omega)) 0 (v := .int .i64 (rd c' 0)) (by
        have : C (addS sC c').1 V12 (.clause sC.clauses.length) = nums .i64 c' := by
          simp only [C]; rw [hcw.1]; simp
        rw [this]
        exact nums_at .i64 c' 0 (by omega) (by omega))
      have hl0 : Lit n (rd c' 0) := hclit _ (hperm.2 _ (rd_mem c' 0 (by omega) (by omega)))
      obtain ⟨y1, y2⟩ := hl0
      have hvl := hBok.good.value
      have hll := hBok.good.level
      have hrl := hBok.good.reason
      have htl := hBok.good.tr
      refine FC.region ?_
      refine mv_ rfl rfl rfl ?_
      refine mv_ rfl rfl rfl ?_
      refine FL.pur rfl rfl (idx41 rfl rfl (by omega) (by omega)) ?_
      refine FL.val _ _ rfl rfl (p_load rfl Try.underlying3 rfl hcell) ?_
      refine mv_ rfl rfl rfl ?_
      refine FL.call rfl rfl (p_call Try.func46 rfl rfl rfl) (set_calls h12 (rd c' 0) sC.clauses.length (by rw [hcw.2.1, hvl]; exact y1) (by rw [hcw.2.1, hvl]; exact y2) (by rw [hcw.2.1, hcw.2.2.1, hvl, hll]) (by rw [hcw.2.1, hcw.2.2.2.1, hvl, hrl]) (by rw [hcw.2.2.2.2]; omega)) ?_
      rintro e_ w_ ⟨rfl, v13, h13, G13⟩
      refine ⟨_, rfl, ?_⟩
      refine FL.nil ?_
      rw [← eL] at h13
      refine blk_normal (blk_normal ?_)
      exact ⟨(learnS sC c', _, ks.take j), ⟨rfl, rfl, rfl, rfl, trivial⟩, ⟨h13, G12.trans G13, R2, R3, hpl4, fun _ => hun⟩, hmu⟩
    · have hc2 : ¬ 1 < c'.length := by have := of_decide_eq_false hcc2; omega
      have eL : learnS sC c' = (addS sC c').1 := by unfold learnS; rw [if_neg hc2]
      rw [← eL] at h12
      refine blk_normal (blk_normal ?_)
      exact ⟨(learnS sC c', V12, ks.take j), ⟨rfl, rfl, rfl, rfl, trivial⟩, ⟨h12, G12, R2, R3, hpl4, fun _ => hun⟩, hmu⟩
end
end Go.Proofs.Ytcahhbcehnbdkaa.Sv
