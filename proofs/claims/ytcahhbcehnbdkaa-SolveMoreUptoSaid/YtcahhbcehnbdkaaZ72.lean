/- Lemmas for: SolveMoreUpto holds: for every input the law returns true, and each argument reads behind the call as it read before. No condition. -/
import Derived.Test.YtcahhbcehnbdkaaZ71
import Derived.MapFrom
import Derived.Deep.OwnRows
import Derived.Laws.Tables
set_option linter.unusedVariables false
set_option linter.unusedSimpArgs false
/- Merging two sorted ranges in place: the plain law. -/
namespace Go.Proofs.Ytcahhbcehnbdkaa.Sv
open Go.RowKit Go.Proofs.YtcahhbcehnbdkaaW.PrintWords Go.Proofs.YtcahhbcehnbdkaaW.PrintLast Go.Proofs.Ytcahhbcehnbdkaa.Eng

section
variable {k : Int → Int} {d e : List Int} {a m b i : Nat}
theorem sd_up (hs : Sd k d (a + 1) b) (hi : a + 1 ≤ i) (hb : i ≤ b) (h1 : ∀ q, a + 1 ≤ q → q < i → k (g d a) < k (g d q)) (h2 : ∀ q, i ≤ q → q < b → k (g d q) ≤ k (g d a))
    (he : ∀ q, g e q = if a ≤ q ∧ q < i - 1 then g d (q + 1) else if q = i - 1 then g d a else g d q) : Sd k e a b := fun p q hp hpq hq => by
  have ep := he p
  have eq := he q
  by_cases p1 : p < i - 1
  · rw [if_pos ⟨hp, p1⟩] at ep
    rw [ep]
    by_cases q1 : q < i - 1
    · rw [if_pos ⟨by omega, q1⟩] at eq; rw [eq]; exact hs.le (by omega) (by omega) (by omega)
    · rw [if_neg (by omega)] at eq
      by_cases q2 : q = i - 1
      · rw [if_pos q2] at eq; rw [eq]; exact Int.le_of_lt (h1 _ (by omega) (by omega))
      · rw [if_neg q2] at eq; rw [eq]; exact hs.le (by omega) (by omega) hq
  · rw [if_neg (by omega)] at ep
    rw [if_neg (by omega), if_neg (by omega)] at eq
    rw [eq]
    by_cases p2 : p = i - 1
    · rw [if_pos p2] at ep; rw [ep]; exact h2 q (by omega) hq
    · rw [if_neg p2] at ep; rw [ep]; exact hs.le (by omega) (by omega) hq
theorem sd_down (hs : Sd k d a m) (hi : a ≤ i) (hm : i ≤ m) (h1 : ∀ q, a ≤ q → q < i → k (g d m) ≤ k (g d q)) (h2 : ∀ q, i ≤ q → q < m → k (g d q) < k (g d m))
    (he : ∀ q, g e q = if i < q ∧ q ≤ m then g d (q - 1) else if q = i then g d m else g d q) : Sd k e a (m + 1) := fun p q hp hpq hq => by
  have ep := he p
  have eq := he q
  by_cases p1 : p < i
  · rw [if_neg (by omega), if_neg (by omega)] at ep
    rw [ep]
    by_cases q1 : i < q
    · rw [if_pos ⟨q1, by omega⟩] at eq; rw [eq]; exact hs.le (by omega) (by omega) (by omega)
    · rw [if_neg (by omega)] at eq
      by_cases q2 : q = i
      · rw [if_pos q2] at eq; rw [eq]; exact h1 _ hp p1
      · rw [if_neg q2] at eq; rw [eq]; exact hs.le (by omega) (by omega) (by omega)
  · rw [if_pos (by omega)] at eq
    rw [eq]
    by_cases p2 : p = i
    · rw [if_neg (by omega), if_pos p2] at ep; rw [ep]; exact Int.le_of_lt (h2 _ (by omega) (by omega))
    · rw [if_pos (by omega)] at ep; rw [ep]; exact hs.le (by omega) (by omega) (by omega)

theorem Rot.none {s m e : Nat} {d : List Int} (h : ¬ (s < m ∧ m < e)) (h1 : s ≤ m) (h2 : m ≤ e) : Rot s m e d d := by
  refine ⟨.refl _ _ _, fun i hi he => ?_⟩
  by_cases h3 : s < m
  · rw [if_neg (by omega)]; congr 1; omega
  · rw [if_pos (by omega)]; congr 1; omega
structure Halves (k : Int → Int) (d : List Int) (a s mid e b : Nat) : Prop where
  a1 : Sd k d a s
  a2 : Sd k d s mid
  b1 : Sd k d mid e
  b2 : Sd k d e b
  ab : ∀ i j, a ≤ i → i < mid → mid ≤ j → j < b → k (g d j) ≤ k (g d i)
theorem halves {d1 : List Int} {s mid n lo hi : Nat} (ham : a < m) (hmb : m < b) (s1 : Sd k d a m) (s2 : Sd k d m b) (hmid : mid = (a + b) / 2) (hn : n = mid + m) (hlo : lo = if mid < m then n - b else a) (hhi : hi = if mid < m then mid else m)
    (h1 : lo ≤ s) (h2 : s ≤ hi) (hQ : ∀ c, lo ≤ c → c < s → k (g d (n - 1 - c)) ≤ k (g d c)) (hN : ∀ c, s ≤ c → c < hi → k (g d c) < k (g d (n - 1 - c))) (hr : Rot s m (n - s) d d1) : Halves k d1 a s mid (n - s) b := by
  have p0 : a ≤ s ∧ s ≤ m ∧ s ≤ mid ∧ m ≤ n - s ∧ n - s ≤ b ∧ mid ≤ n - s := by
    by_cases hc : mid < m
    · rw [if_pos hc] at hlo hhi; omega
    · rw [if_neg hc] at hlo hhi; omega
  obtain ⟨pa, pb, pc, pd, pe, pf⟩ := p0
  have eA : ∀ i, i < s → g d1 i = g d i := fun i h => hr.mix.out i (.inl h)
  have eB : ∀ i, n - s ≤ i → g d1 i = g d i := fun i h => hr.mix.out i (.inr h)
  have eC : ∀ i, s ≤ i → i < mid → g d1 i = g d (m + (i - s)) := fun i h h' => by rw [hr.place i h (by omega), if_pos (by omega)]
  have eD : ∀ i, mid ≤ i → i < n - s → g d1 i = g d (s + (i - mid)) := fun i h h' => by rw [hr.place i (by omega) h', if_neg (by omega)]; congr 1; omega
  refine ⟨fun i j x y z => ?_, fun i j x y z => ?_, fun i j x y z => ?_, fun i j x y z => ?_, fun i j x y z t => ?_⟩
  · rw [eA i (by omega), eA j z]; exact s1.le x (by omega) (by omega)
  · rw [eC i x (by omega), eC j (by omega) z]; exact s2.le (by omega) (by omega) (by omega)
  · rw [eD i x (by omega), eD j (by omega) z]; exact s1.le (by omega) (by omega) (by omega)
  · rw [eB i x, eB j (by omega)]; exact s2.le (by omega) (by omega) (by omega)
  · by_cases hi1 : i < s
    · rw [eA i hi1]
      by_cases hj1 : j < n - s
      · rw [eD j z hj1]; exact s1.le x (by omega) (by omega)
      · rw [eB j (by omega)]
        have q1 := hQ (s - 1) (by
          by_cases hc : mid < m
          · rw [if_pos hc] at hlo hhi; omega
          · rw [if_neg hc] at hlo hhi; omega) (by omega)
        rw [show n - 1 - (s - 1) = n - s by omega] at q1
        exact Int.le_trans (s2.le pd (by omega) t) (Int.le_trans q1 (s1.le x (by omega) (by omega)))
    · rw [eC i (by omega) y]
      by_cases hj1 : j < n - s
      · rw [eD j z hj1]
        have q1 := hN s (Nat.le_refl _) (by
          by_cases hc : mid < m
          · rw [if_pos hc] at hlo hhi; omega
          · rw [if_neg hc] at hlo hhi; omega)
        exact Int.le_trans (s1.le pa (by omega) (by omega)) (Int.le_trans (Int.le_of_lt q1) (s2.le (by omega) (by omega) (by omega)))
      · rw [eB j (by omega)]; exact s2.le (by omega) (by omega) t
theorem Sd.of_halves {d1 d2 d3 : List Int} {mid : Nat} (hamid : a ≤ mid) (hmb : mid ≤ b) (hab : ∀ i j, a ≤ i → i < mid → mid ≤ j → j < b → k (g d1 j) ≤ k (g d1 i)) (m1 : Mix a mid d1 d2) (s1 : Sd k d2 a mid) (m2 : Mix mid b d2 d3) (s2 : Sd k d3 mid b) : Sd k d3 a b :=
  Sd.join (s1.out m2 (.inl (Nat.le_refl _))) s2 fun i j x y z t => by
    rw [m2.out i (.inl y)]
    obtain ⟨i', i1, i2, ei⟩ := m1.keep i x y
    obtain ⟨j', j1, j2, ej⟩ := m2.keep j z t
    rw [ei, ej, m1.out j' (.inr j1)]
    exact hab i' j' i1 i2 j1 j2
end
section
variable {P : Program} {ρ : Env} {dst : Option Tmp} {ty : TypeId} {pos : String} {af : Array Edge} {g : Option (Nat × Bool)} {x y : Operand} {t t' : TypeId}
theorem p_half {m r : Int} (hx : ev ρ x = some (.int .u64 m)) (hy : ev ρ y = some (.int .u64 1)) (hr : m / 2 = r) : Pur P ρ ⟨dst, .binOp .shr t x y t', ty, pos, af, g⟩ (.int .u64 r) :=
  p_bin hx hy (fun w => by simp [eqGuard]) fun w => by
    subst hr
    have : m.fdiv 2 = m / 2 := Int.fdiv_eq_ediv_of_nonneg _ (by decide)
    simp [binOp, Op.shift, IntKind.bits, this]
theorem wu {m : Int} (h0 : 0 ≤ m) (h1 : m < 18446744073709551616) : IntKind.u64.wrap m = m := by
  simp only [IntKind.wrap, IntKind.bits, IntKind.signed]
  have : m % 18446744073709551616 = m := Int.emod_eq_of_lt h0 h1
  simpa using this
end
end Go.Proofs.Ytcahhbcehnbdkaa.Sv

/- Walk of the merge in place. -/
namespace Go.Proofs.Ytcahhbcehnbdkaa.Sv
open Go.RowKit Go.Proofs.YtcahhbcehnbdkaaW.PrintWords Go.Proofs.YtcahhbcehnbdkaaW.PrintLast Go.Proofs.Ytcahhbcehnbdkaa.Eng

section
variable {B g0 : Nat} {s : S} {V : Lay} {cs bd n cap L : Nat}
/-- What every point of the walk knows. -/
structure On (w : World) (B g0 : Nat) (s : S) (V : Lay) (cs bd n cap L : Nat) (d : List Int) : Prop where
  ctx : Ctx w B g0 s V cs bd n
  row : Rw w B bd cap d
  len : d.length = L
  lit : ∀ l ∈ d, Lit n l
theorem On.drew {w : World} {d : List Int} (h : On w B g0 s V cs bd n cap L d) : On w.drew B g0 s V cs bd n cap L d := ⟨h.ctx.drew, h.row.drew, h.len, h.lit⟩
theorem On.mix {w w' : World} {d e : List Int} (h : On w B g0 s V cs bd n cap L d) (hr : Rw w' B bd cap e) (hf : FrB bd w w') {a b : Nat} (hm : Mix a b d e) : On w' B g0 s V cs bd n cap L e := ⟨h.ctx.fr hf, hr, hm.len.trans h.len, fun l hl => h.lit l (hm.perm.mem_iff.1 hl)⟩
theorem On.cell {w : World} {d : List Int} (h : On w B g0 s V cs bd n cap L d) (i : Nat) (hi : i < L) : w.cell? ⟨bd, (i : Int).toNat, none⟩ = some (.int .i64 (g d i)) := h.row.cell i (by omega) (by rw [h.len]; omega)
theorem On.at {w : World} {d : List Int} (h : On w B g0 s V cs bd n cap L d) (i : Nat) (hi : i < L) : Lit n (g d i) := h.lit _ (rd_mem d i (by omega) (by rw [h.len]; omega))
theorem On.swap {w : World} {d : List Int} (h : On w B g0 s V cs bd n cap L d) (p q : Nat) (hp : p < L) (hq : q < L) :
    w.cell? ⟨bd, (q : Int).toNat, none⟩ = some (.int .i64 (g d q)) ∧ (w.setCell ⟨bd, (p : Int).toNat, none⟩ (.int .i64 (g d q))).cell? ⟨bd, (q : Int).toNat, none⟩ = some (.int .i64 (g (d.set p (g d q)) q)) ∧
    (w.setCell ⟨bd, (p : Int).toNat, none⟩ (.int .i64 (g d q))).frozen? ⟨bd, (q : Int).toNat, none⟩ = false ∧ On ((w.setCell ⟨bd, (p : Int).toNat, none⟩ (.int .i64 (g d q))).setCell ⟨bd, (q : Int).toNat, none⟩ (.int .i64 (g d p))) B g0 s V cs bd n cap L (swp d p q) ∧
    FrB bd w ((w.setCell ⟨bd, (p : Int).toNat, none⟩ (.int .i64 (g d q))).setCell ⟨bd, (q : Int).toNat, none⟩ (.int .i64 (g d p))) := by
  have hl := h.len
  obtain ⟨r1, f1, r0⟩ := h.row.swap (p := (p : Int)) (q := (q : Int)) (by omega) (by omega) (by omega) (by omega)
  exact ⟨h.cell q hq, r0.cell (q : Int) (by omega) (by rw [List.length_set]; omega), r0.unfr _, h.mix r1 f1 (Mix.swap d p q (Nat.zero_le _) hp (Nat.zero_le _) hq (by omega)), f1⟩

set_option maxHeartbeats 4000000 in
theorem symMerge_calls (hcap : L < 4611686018427387904) : ∀ (fuel : Nat) {w : World} {d : List Int} (h : On w B g0 s V cs bd n cap L d) (a m b : Nat) (ham : a < m) (hmb : m < b) (hb : b ≤ L) (hf : b - a ≤ fuel) (s1 : Sd (ofv s) d a m) (s2 : Sd (ofv s) d m b),
    Calls Try.prog 58 #[.slice (some ⟨bd, 0, none⟩) L cap, .int .i64 a, .int .i64 m, .int .i64 b, cmpV cs] w fun e w' => e = .returned (.tuple #[]) ∧ ∃ d', Mix a b d d' ∧ Sd (ofv s) d' a b ∧ On w' B g0 s V cs bd n cap L d' ∧ FrB bd w w'
| 0, w, d, h, a, m, b, ham, hmb, hb, hf, s1, s2 => absurd hf (by omega)
| fuel + 1, w, d, h, a, m, b, ham, hmb, hb, hf, s1, s2 => by
  refine calls_of_FC (N := 220) (vs := [.slice (some ⟨bd, 0, none⟩) L cap, .int .i64 a, .int .i64 m, .int .i64 b, cmpV cs]) Try.func58 rfl Try.ntmps58 (Nat.le_of_ble_eq_true rfl) ?_
  refine FC.seq ?_
  refine FC.seq (FC.region ?_)
  refine mv_ rfl rfl rfl ?_
  refine mv_ rfl rfl rfl ?_
  refine FL.pur rfl rfl (p_sub rfl rfl ((wr (by omega) (by omega)).trans (show (m : Int) - a = ((m - a : Nat) : Int) by omega))) ?_
  refine FL.pur rfl rfl (p_eql rfl rfl rfl) ?_
  refine FL.nilK ?_
  refine FC.cond (decide (((m - a : Nat) : Int) = 1)) rfl (fun hc => ?_) (fun hc => FC.skip (thn_normal ?_))
  · have hma : m = a + 1 := by have := of_decide_eq_true hc; omega
    refine FC.seq (FC.region ?_)
    refine mv_ rfl rfl rfl ?_
    refine sg_ rfl rfl rfl ?_
    refine FL.nilK ?_
    refine FC.seq (FC.region ?_)
    refine mv_ rfl rfl rfl ?_
    refine sg_ rfl rfl rfl ?_
    refine FL.nilK ?_
    refine FC.cut (σ := Nat) (fun i => [(0, .slice (some ⟨bd, 0, none⟩) L cap), (1, .int .i64 a), (2, .int .i64 m), (3, .int .i64 b), (4, cmpV cs), (10, .int .i64 i)]) (fun i w2 => On w2 B g0 s V cs bd n cap L d ∧ FrB bd w w2 ∧ m ≤ i ∧ i ≤ b ∧ (∀ q, m ≤ q → q < i → ofv s (g d a) < ofv s (g d q)) ∧ (∀ q, i ≤ q → q < b → ofv s (g d q) ≤ ofv s (g d a))) ?_ ?_
    · refine FC.block ?_
      refine FC.loop (σ := Nat × Nat) (fun x => [(0, .slice (some ⟨bd, 0, none⟩) L cap), (1, .int .i64 a), (2, .int .i64 m), (3, .int .i64 b), (4, cmpV cs), (10, .int .i64 x.1), (11, .int .i64 x.2)]) (fun x w2 => On w2 B g0 s V cs bd n cap L d ∧ FrB bd w w2 ∧ m ≤ x.1 ∧ x.1 ≤ x.2 ∧ x.2 ≤ b ∧ (∀ q, m ≤ q → q < x.1 → ofv s (g d a) < ofv s (g d q)) ∧ (∀ q, x.2 ≤ q → q < b → ofv s (g d q) ≤ ofv s (g d a)))
        (fun x => x.2 - x.1) (m, b) ⟨h, Fr.refl _ _, Nat.le_refl _, Nat.le_of_lt hmb, Nat.le_refl _, fun q h1 h2 => absurd h2 (Nat.not_lt.2 h1), fun q h1 h2 => absurd h2 (Nat.not_lt.2 h1)⟩ ⟨rfl, rfl, rfl, rfl, rfl, rfl, rfl, trivial⟩ ?_
      rintro ⟨i, j⟩ w1 ⟨h1, f1, hmi, hij, hjb, q1, q2⟩
      simp only at h1 f1 hmi hij hjb q1 q2 ⊢
      refine FC.seq ?_
      refine FC.seq (FC.region ?_)
      refine mv_ rfl rfl rfl ?_
      refine mv_ rfl rfl rfl ?_
      refine FL.pur rfl rfl (p_lss rfl rfl rfl) ?_
      refine FL.nilK ?_
      refine FC.cond (decide ((i : Int) < (j : Int))) rfl (fun hc => FC.skip (thn_normal ?_)) (fun hc => FC.exit ?_)
      rotate_left
      · obtain rfl : i = j := by have := of_decide_eq_false hc; omega
        exact thn_exit (thn_exit (blk_exit ⟨i, ⟨rfl, rfl, rfl, rfl, rfl, rfl, trivial⟩, h1, f1, hmi, hjb, q1, q2⟩))
      have hlt : i < j := by have := of_decide_eq_true hc; omega
      obtain ⟨x, hx⟩ : ∃ x, x = (i + j) / 2 := ⟨_, rfl⟩
      refine FC.block ?_
      refine FC.seq (FC.region ?_)
      refine mv_ rfl rfl rfl ?_
      refine mv_ rfl rfl rfl ?_
      refine FL.pur rfl rfl (p_add rfl rfl ((wr (by omega) (by omega)).trans (show (i : Int) + j = ((i + j : Nat) : Int) by omega))) ?_
      refine FL.pur rfl rfl (p_conv rfl ⟨_, Try.underlying3⟩ Try.underlying43 (wu (by omega) (by omega))) ?_
      refine FL.pur rfl rfl (p_half rfl rfl (show ((i + j : Nat) : Int) / 2 = (x : Int) by omega)) ?_
      refine FL.pur rfl rfl (p_conv rfl ⟨_, Try.underlying43⟩ Try.underlying3 (wr (by omega) (by omega))) ?_
      refine sg_ rfl rfl rfl ?_
      refine FL.nilK ?_
      have hd := h1.drew
      have hS := And.intro (hd.cell x (by omega)) (hd.cell a (by omega))
      refine FC.seq (FC.draw (fun w => w.cell? ⟨bd, (x : Int).toNat, none⟩ = some (.int .i64 (g d x)) ∧ w.cell? ⟨bd, (a : Int).toNat, none⟩ = some (.int .i64 (g d a))) [9] (bA 11 0) (by kernel_rfl) rfl rfl hS ?_)
      refine FA.pur (i := 0) (bA 11 1) rfl (by kernel_rfl) rfl rfl (p_move rfl) ?_
      refine FA.pur (i := 1) (bA 11 3) rfl (by kernel_rfl) rfl rfl (p_move rfl) ?_
      refine FA.pur (i := 2) (bA 11 7) rfl (by kernel_rfl) rfl rfl (p_move rfl) ?_
      refine FA.pur (i := 3) (bA 11 15) rfl (by kernel_rfl) rfl rfl (idx41 rfl rfl (by omega) (by omega)) ?_
      refine FA.pur (i := 5) (bA 11 47) rfl (by kernel_rfl) rfl rfl (p_move rfl) ?_
      refine FA.pur (i := 6) (bA 11 111) rfl (by kernel_rfl) rfl rfl (p_move rfl) ?_
      refine FA.pur (i := 7) (bA 11 239) rfl (by kernel_rfl) rfl rfl (idx41 rfl rfl (by omega) (by omega)) ?_
      refine FA.lod (i := 4) (bA 11 255) rfl (by kernel_rfl) rfl rfl hS (fun _ hs => p_load rfl Try.underlying3 rfl hs.1) ?_
      refine FA.lod (i := 8) (bA 11 511) rfl (by kernel_rfl) rfl rfl hS (fun _ hs => p_load rfl Try.underlying3 rfl hs.2) ?_
      refine FA.lastC (i := 9) (bA 11 1023) rfl (by kernel_rfl) (by decide) rfl rfl (p_callv (cap := [.pointer (some ⟨cs, 0, none⟩)]) rfl Try.func35 rfl rfl rfl) (cmp_calls hd.ctx _ _ (hd.at _ (by omega)) (hd.at _ (by omega))) ?_
      rintro e_ w_ ⟨rfl, rfl⟩
      refine ⟨_, rfl, ?_⟩
      refine FA.pur (i := 10) (bA 11 2047) rfl (by kernel_rfl) rfl rfl (p_lss rfl rfl rfl) ?_
      refine FA.doneK (by kernel_rfl) ?_
      refine FC.cond (decide (ofv s (g d a) - ofv s (g d x) < 0)) rfl (fun hc => ?_) (fun hc => ?_)
      · have hlt2 : ofv s (g d a) < ofv s (g d x) := by have := of_decide_eq_true hc; omega
        refine FC.region ?_
        refine mv_ rfl rfl rfl ?_
        refine FL.pur rfl rfl (p_add rfl rfl ((wr (by omega) (by omega)).trans (show (x : Int) + 1 = ((x + 1 : Nat) : Int) by omega))) ?_
        refine sg_ rfl rfl rfl ?_
        refine FL.nil ?_
        refine blk_normal ⟨(x + 1, j), ⟨rfl, rfl, rfl, rfl, rfl, rfl, rfl, trivial⟩, ⟨hd.drew, f1.drew.drew, by show m ≤ x + 1; omega, by show x + 1 ≤ j; omega, hjb, fun q h1 h2 => Int.lt_of_lt_of_le hlt2 (s2.le h1 (Nat.le_of_lt_succ h2) (by omega)), q2⟩, by show j - (x + 1) < j - i; omega⟩
      · have hlt2 : ofv s (g d x) ≤ ofv s (g d a) := by have := of_decide_eq_false hc; omega
        refine FC.region ?_
        refine mv_ rfl rfl rfl ?_
        refine sg_ rfl rfl rfl ?_
        refine FL.nil ?_
        refine blk_normal ⟨(i, x), ⟨rfl, rfl, rfl, rfl, rfl, rfl, rfl, trivial⟩, ⟨hd.drew, f1.drew.drew, hmi, by show i ≤ x; omega, by show x ≤ b; omega, q1, fun q h1 h2 => Int.le_trans (s2.le (by omega) h1 h2) hlt2⟩, by show x - i < j - i; omega⟩
    · rintro i w1 ⟨h1, f1, hmi, hib, q1, q2⟩
      refine FC.cut (σ := List Int) (fun _ => [(0, .slice (some ⟨bd, 0, none⟩) L cap), (1, .int .i64 a), (2, .int .i64 m), (3, .int .i64 b), (4, cmpV cs)]) (fun d' w2 => Mix a b d d' ∧ Sd (ofv s) d' a b ∧ On w2 B g0 s V cs bd n cap L d' ∧ FrB bd w w2) ?_ ?_
      · refine FC.seq (FC.region ?_)
        refine mv_ rfl rfl rfl ?_
        refine sg_ rfl rfl rfl ?_
        refine FL.nilK ?_
        refine FC.block ?_
        refine FC.loop (σ := Nat × List Int) (fun x => [(0, .slice (some ⟨bd, 0, none⟩) L cap), (1, .int .i64 a), (2, .int .i64 m), (3, .int .i64 b), (4, cmpV cs), (10, .int .i64 i), (13, .int .i64 x.1)]) (fun x w2 => On w2 B g0 s V cs bd n cap L x.2 ∧ FrB bd w w2 ∧ Mix a b d x.2 ∧ a ≤ x.1 ∧ x.1 ≤ i - 1 ∧ ∀ q, g x.2 q = if a ≤ q ∧ q < x.1 then g d (q + 1) else if q = x.1 then g d a else g d q)
          (fun x => i - 1 - x.1) (a, d) ⟨h1, f1, .refl _ _ _, Nat.le_refl _, by show a ≤ i - 1; omega, fun q => by
            simp only
            rw [if_neg (by omega)]
            split
            · rename_i e; rw [e]
            · rfl⟩ ⟨rfl, rfl, rfl, rfl, rfl, rfl, rfl, trivial⟩ ?_
        rintro ⟨k, d1⟩ w2 ⟨h2, f2, m2, hak, hki, hg⟩
        simp only at h2 f2 m2 hak hki hg ⊢
        refine FC.seq ?_
        refine FC.seq (FC.region ?_)
        refine mv_ rfl rfl rfl ?_
        refine mv_ rfl rfl rfl ?_
        refine FL.pur rfl rfl (p_sub rfl rfl ((wr (by omega) (by omega)).trans (show (i : Int) - 1 = ((i - 1 : Nat) : Int) by omega))) ?_
        refine FL.pur rfl rfl (p_lss rfl rfl rfl) ?_
        refine FL.nilK ?_
        refine FC.cond (decide ((k : Int) < ((i - 1 : Nat) : Int))) rfl (fun hc => FC.skip (thn_normal ?_)) (fun hc => FC.exit ?_)
        rotate_left
        · obtain rfl : k = i - 1 := by have := of_decide_eq_false hc; omega
          exact thn_exit (thn_exit (blk_exit ⟨d1, ⟨rfl, rfl, rfl, rfl, rfl, trivial⟩, m2, sd_up (hma ▸ s2) (by omega) hib (fun q x y => q1 q (by omega) y) q2 hg, h2, f2⟩))
        have hlt : k < i - 1 := by have := of_decide_eq_true hc; omega
        refine FC.seq ?_
        refine FC.block ?_
        have hd := h2.drew
        obtain ⟨c2, c3, u3, h3, f3⟩ := hd.swap k (k + 1) (by omega) (by omega)
        have hS := And.intro (hd.cell k (by omega)) c2
        refine (FC.draw (fun w => w.cell? ⟨bd, (k : Int).toNat, none⟩ = some (.int .i64 (g d1 k)) ∧ w.cell? ⟨bd, ((k + 1 : Nat) : Int).toNat, none⟩ = some (.int .i64 (g d1 (k + 1)))) [15, 17] (bA 18 0) (by kernel_rfl) rfl rfl hS ?_)
        refine FA.pur (i := 0) (bA 18 1) rfl (by kernel_rfl) rfl rfl (p_move rfl) ?_
        refine FA.pur (i := 1) (bA 18 3) rfl (by kernel_rfl) rfl rfl (p_move rfl) ?_
        refine FA.pur (i := 2) (bA 18 7) rfl (by kernel_rfl) rfl rfl (p_move rfl) ?_
        refine FA.pur (i := 3) (bA 18 15) rfl (by kernel_rfl) rfl rfl (p_move rfl) ?_
        refine FA.pur (i := 4) (bA 18 31) rfl (by kernel_rfl) rfl rfl (p_add rfl rfl ((wr (by omega) (by omega)).trans (show (k : Int) + 1 = ((k + 1 : Nat) : Int) by omega))) ?_
        refine FA.pur (i := 5) (bA 18 63) rfl (by kernel_rfl) rfl rfl (p_move rfl) ?_
        refine FA.pur (i := 6) (bA 18 127) rfl (by kernel_rfl) rfl rfl (p_move rfl) ?_
        refine FA.pur (i := 7) (bA 18 255) rfl (by kernel_rfl) rfl rfl (p_add rfl rfl ((wr (by omega) (by omega)).trans (show (k : Int) + 1 = ((k + 1 : Nat) : Int) by omega))) ?_
        refine FA.pur (i := 8) (bA 18 511) rfl (by kernel_rfl) rfl rfl (idx41 rfl rfl (by omega) (by omega)) ?_
        refine FA.pur (i := 10) (bA 18 1535) rfl (by kernel_rfl) rfl rfl (p_move rfl) ?_
        refine FA.pur (i := 11) (bA 18 3583) rfl (by kernel_rfl) rfl rfl (p_move rfl) ?_
        refine FA.pur (i := 12) (bA 18 7679) rfl (by kernel_rfl) rfl rfl (idx41 rfl rfl (by omega) (by omega)) ?_
        refine FA.lod (i := 9) (bA 18 8191) rfl (by kernel_rfl) rfl rfl hS (fun _ hs => p_load rfl Try.underlying3 rfl hs.2) ?_
        refine FA.lod (i := 13) (bA 18 16383) rfl (by kernel_rfl) rfl rfl hS (fun _ hs => p_load rfl Try.underlying3 rfl hs.1) ?_
        refine FA.pur (i := 14) (bA 18 32767) rfl (by kernel_rfl) rfl rfl (idx41 rfl rfl (by omega) (by omega)) ?_
        refine FA.lastS (i := 15) _ (bA 18 65535) rfl (by kernel_rfl) (by decide) rfl (st3 rfl rfl rfl hS.1 (hd.row.unfr _)) ?_
        refine FA.pur (i := 16) (bA 18 131071) rfl (by kernel_rfl) rfl rfl (idx41 rfl rfl (by omega) (by omega)) ?_
        refine FA.lastS (i := 17) _ (bA 18 262143) rfl (by kernel_rfl) (by decide) rfl (st3 rfl rfl rfl c3 u3) ?_
        refine FA.done (by kernel_rfl) ?_
        refine blk_normal (thn_normal ?_)
        refine FC.region ?_
        refine mv_ rfl rfl rfl ?_
        refine FL.pur rfl rfl (p_add rfl rfl ((wr (by omega) (by omega)).trans (show (k : Int) + 1 = ((k + 1 : Nat) : Int) by omega))) ?_
        refine sg_ rfl rfl rfl ?_
        refine FL.nil ?_
        have hl2 := h2.len
        refine ⟨(k + 1, swp d1 k ((k + 1 : Nat) : Int)), ⟨rfl, rfl, rfl, rfl, rfl, rfl, rfl, trivial⟩, ⟨h3, f2.drew.trans' f3, m2.trans (Mix.swap d1 k (k + 1) hak (by omega) (by omega) (by omega) (by omega)), by show a ≤ k + 1; omega, by show k + 1 ≤ i - 1; omega, fun q => ?_⟩, by show i - 1 - (k + 1) < i - 1 - k; omega⟩
        show g (swp d1 k ((k + 1 : Nat) : Int)) q = if a ≤ q ∧ q < k + 1 then g d (q + 1) else if q = k + 1 then g d a else g d q
        rw [g_swp d1 k (k + 1) q (by omega) (by omega), hg, hg, hg]
        by_cases e1 : q = k + 1
        · rw [if_pos e1, if_neg (by omega), if_pos rfl, if_neg (by omega), if_pos e1]
        rw [if_neg e1]
        by_cases e2 : q = k
        · subst e2; rw [if_pos rfl, if_neg (by omega), if_neg (by omega), if_pos (by omega)]
        rw [if_neg e2]
        by_cases e3 : a ≤ q ∧ q < k
        · rw [if_pos e3, if_pos (by omega)]
        · rw [if_neg e3, if_neg e2, if_neg (by omega), if_neg e1]
      · rintro d' w2 ⟨x1, x2, x3, x4⟩
        refine FC.ret ?_
        repeat with_reducible first | refine thn_ret ?_ | refine blk_ret ?_ | refine nog_ret ?_
        exact ret0 Try.results58 ⟨rfl, d', x1, x2, x3, x4⟩
  have hma : a + 1 < m := by have := of_decide_eq_false hc; omega
  refine FC.seq ?_
  refine FC.seq (FC.region ?_)
  refine mv_ rfl rfl rfl ?_
  refine mv_ rfl rfl rfl ?_
  refine FL.pur rfl rfl (p_sub rfl rfl ((wr (by omega) (by omega)).trans (show (b : Int) - m = ((b - m : Nat) : Int) by omega))) ?_
  refine FL.pur rfl rfl (p_eql rfl rfl rfl) ?_
  refine FL.nilK ?_
  refine FC.cond (decide (((b - m : Nat) : Int) = 1)) rfl (fun hc => ?_) (fun hc => FC.skip (thn_normal ?_))
  · have hbm : b = m + 1 := by have := of_decide_eq_true hc; omega
    refine FC.seq (FC.region ?_)
    refine mv_ rfl rfl rfl ?_
    refine sg_ rfl rfl rfl ?_
    refine FL.nilK ?_
    refine FC.seq (FC.region ?_)
    refine mv_ rfl rfl rfl ?_
    refine sg_ rfl rfl rfl ?_
    refine FL.nilK ?_
    refine FC.cut (σ := Nat) (fun i => [(0, .slice (some ⟨bd, 0, none⟩) L cap), (1, .int .i64 a), (2, .int .i64 m), (3, .int .i64 b), (4, cmpV cs), (14, .int .i64 i)]) (fun i w2 => On w2 B g0 s V cs bd n cap L d ∧ FrB bd w w2 ∧ a ≤ i ∧ i ≤ m ∧ (∀ q, a ≤ q → q < i → ofv s (g d m) ≤ ofv s (g d q)) ∧ (∀ q, i ≤ q → q < m → ofv s (g d q) < ofv s (g d m))) ?_ ?_
    · refine FC.block ?_
      refine FC.loop (σ := Nat × Nat) (fun x => [(0, .slice (some ⟨bd, 0, none⟩) L cap), (1, .int .i64 a), (2, .int .i64 m), (3, .int .i64 b), (4, cmpV cs), (14, .int .i64 x.1), (15, .int .i64 x.2)]) (fun x w2 => On w2 B g0 s V cs bd n cap L d ∧ FrB bd w w2 ∧ a ≤ x.1 ∧ x.1 ≤ x.2 ∧ x.2 ≤ m ∧ (∀ q, a ≤ q → q < x.1 → ofv s (g d m) ≤ ofv s (g d q)) ∧ (∀ q, x.2 ≤ q → q < m → ofv s (g d q) < ofv s (g d m)))
        (fun x => x.2 - x.1) (a, m) ⟨h, Fr.refl _ _, Nat.le_refl _, Nat.le_of_lt ham, Nat.le_refl _, fun q h1 h2 => absurd h2 (Nat.not_lt.2 h1), fun q h1 h2 => absurd h2 (Nat.not_lt.2 h1)⟩ ⟨rfl, rfl, rfl, rfl, rfl, rfl, rfl, trivial⟩ ?_
      rintro ⟨i, j⟩ w1 ⟨h1, f1, hmi, hij, hjb, q1, q2⟩
      simp only at h1 f1 hmi hij hjb q1 q2 ⊢
      refine FC.seq ?_
      refine FC.seq (FC.region ?_)
      refine mv_ rfl rfl rfl ?_
      refine mv_ rfl rfl rfl ?_
      refine FL.pur rfl rfl (p_lss rfl rfl rfl) ?_
      refine FL.nilK ?_
      refine FC.cond (decide ((i : Int) < (j : Int))) rfl (fun hc => FC.skip (thn_normal ?_)) (fun hc => FC.exit ?_)
      rotate_left
      · obtain rfl : i = j := by have := of_decide_eq_false hc; omega
        exact thn_exit (thn_exit (blk_exit ⟨i, ⟨rfl, rfl, rfl, rfl, rfl, rfl, trivial⟩, h1, f1, hmi, hjb, q1, q2⟩))
      have hlt : i < j := by have := of_decide_eq_true hc; omega
      obtain ⟨x, hx⟩ : ∃ x, x = (i + j) / 2 := ⟨_, rfl⟩
      refine FC.block ?_
      refine FC.seq (FC.region ?_)
      refine mv_ rfl rfl rfl ?_
      refine mv_ rfl rfl rfl ?_
      refine FL.pur rfl rfl (p_add rfl rfl ((wr (by omega) (by omega)).trans (show (i : Int) + j = ((i + j : Nat) : Int) by omega))) ?_
      refine FL.pur rfl rfl (p_conv rfl ⟨_, Try.underlying3⟩ Try.underlying43 (wu (by omega) (by omega))) ?_
      refine FL.pur rfl rfl (p_half rfl rfl (show ((i + j : Nat) : Int) / 2 = (x : Int) by omega)) ?_
      refine FL.pur rfl rfl (p_conv rfl ⟨_, Try.underlying43⟩ Try.underlying3 (wr (by omega) (by omega))) ?_
      refine sg_ rfl rfl rfl ?_
      refine FL.nilK ?_
      have hd := h1.drew
      have hS := And.intro (hd.cell m (by omega)) (hd.cell x (by omega))
      refine FC.seq (FC.draw (fun w => w.cell? ⟨bd, (m : Int).toNat, none⟩ = some (.int .i64 (g d m)) ∧ w.cell? ⟨bd, (x : Int).toNat, none⟩ = some (.int .i64 (g d x))) [9] (bA 12 0) (by kernel_rfl) rfl rfl hS ?_)
      refine FA.pur (i := 0) (bA 12 1) rfl (by kernel_rfl) rfl rfl (p_move rfl) ?_
      refine FA.pur (i := 1) (bA 12 3) rfl (by kernel_rfl) rfl rfl (p_move rfl) ?_
      refine FA.pur (i := 2) (bA 12 7) rfl (by kernel_rfl) rfl rfl (p_move rfl) ?_
      refine FA.pur (i := 3) (bA 12 15) rfl (by kernel_rfl) rfl rfl (idx41 rfl rfl (by omega) (by omega)) ?_
      refine FA.pur (i := 5) (bA 12 47) rfl (by kernel_rfl) rfl rfl (p_move rfl) ?_
      refine FA.pur (i := 6) (bA 12 111) rfl (by kernel_rfl) rfl rfl (p_move rfl) ?_
      refine FA.pur (i := 7) (bA 12 239) rfl (by kernel_rfl) rfl rfl (idx41 rfl rfl (by omega) (by omega)) ?_
      refine FA.lod (i := 4) (bA 12 255) rfl (by kernel_rfl) rfl rfl hS (fun _ hs => p_load rfl Try.underlying3 rfl hs.1) ?_
      refine FA.lod (i := 8) (bA 12 511) rfl (by kernel_rfl) rfl rfl hS (fun _ hs => p_load rfl Try.underlying3 rfl hs.2) ?_
      refine FA.lastC (i := 9) (bA 12 1023) rfl (by kernel_rfl) (by decide) rfl rfl (p_callv (cap := [.pointer (some ⟨cs, 0, none⟩)]) rfl Try.func35 rfl rfl rfl) (cmp_calls hd.ctx _ _ (hd.at _ (by omega)) (hd.at _ (by omega))) ?_
      rintro e_ w_ ⟨rfl, rfl⟩
      refine ⟨_, rfl, ?_⟩
      refine FA.pur (i := 10) (bA 12 2047) rfl (by kernel_rfl) rfl rfl (p_lss rfl rfl rfl) ?_
      refine FA.pur (i := 11) (bA 12 4095) rfl (by kernel_rfl) rfl rfl (p_not rfl) ?_
      refine FA.doneK (by kernel_rfl) ?_
      refine FC.cond (!decide (ofv s (g d x) - ofv s (g d m) < 0)) rfl (fun hc => ?_) (fun hc => ?_)
      · have hlt2 : ofv s (g d m) ≤ ofv s (g d x) := by
          simp only [Bool.not_eq_true', decide_eq_false_iff_not] at hc
          omega
        refine FC.region ?_
        refine mv_ rfl rfl rfl ?_
        refine FL.pur rfl rfl (p_add rfl rfl ((wr (by omega) (by omega)).trans (show (x : Int) + 1 = ((x + 1 : Nat) : Int) by omega))) ?_
        refine sg_ rfl rfl rfl ?_
        refine FL.nil ?_
        refine blk_normal ⟨(x + 1, j), ⟨rfl, rfl, rfl, rfl, rfl, rfl, rfl, trivial⟩, ⟨hd.drew, f1.drew.drew, by show a ≤ x + 1; omega, by show x + 1 ≤ j; omega, hjb, fun q h1 h2 => Int.le_trans hlt2 (s1.le h1 (Nat.le_of_lt_succ h2) (by omega)), q2⟩, by show j - (x + 1) < j - i; omega⟩
      · have hlt2 : ofv s (g d x) < ofv s (g d m) := by
          simp only [Bool.not_eq_false', decide_eq_true_eq] at hc
          omega
        refine FC.region ?_
        refine mv_ rfl rfl rfl ?_
        refine sg_ rfl rfl rfl ?_
        refine FL.nil ?_
        refine blk_normal ⟨(i, x), ⟨rfl, rfl, rfl, rfl, rfl, rfl, rfl, trivial⟩, ⟨hd.drew, f1.drew.drew, hmi, by show i ≤ x; omega, by show x ≤ m; omega, q1, fun q h1 h2 => Int.lt_of_le_of_lt (s1.le (by omega) h1 h2) hlt2⟩, by show x - i < j - i; omega⟩
    · rintro i w1 ⟨h1, f1, hmi, hib, q1, q2⟩
      refine FC.cut (σ := List Int) (fun _ => [(0, .slice (some ⟨bd, 0, none⟩) L cap), (1, .int .i64 a), (2, .int .i64 m), (3, .int .i64 b), (4, cmpV cs)]) (fun d' w2 => Mix a b d d' ∧ Sd (ofv s) d' a b ∧ On w2 B g0 s V cs bd n cap L d' ∧ FrB bd w w2) ?_ ?_
      · refine FC.seq (FC.region ?_)
        refine mv_ rfl rfl rfl ?_
        refine sg_ rfl rfl rfl ?_
        refine FL.nilK ?_
        refine FC.block ?_
        refine FC.loop (σ := Nat × List Int) (fun x => [(0, .slice (some ⟨bd, 0, none⟩) L cap), (1, .int .i64 a), (2, .int .i64 m), (3, .int .i64 b), (4, cmpV cs), (14, .int .i64 i), (17, .int .i64 x.1)]) (fun x w2 => On w2 B g0 s V cs bd n cap L x.2 ∧ FrB bd w w2 ∧ Mix a b d x.2 ∧ i ≤ x.1 ∧ x.1 ≤ m ∧ ∀ q, g x.2 q = if x.1 < q ∧ q ≤ m then g d (q - 1) else if q = x.1 then g d m else g d q)
          (fun x => x.1) (m, d) ⟨h1, f1, .refl _ _ _, hib, Nat.le_refl _, fun q => by
            simp only
            rw [if_neg (by omega)]
            split
            · rename_i e; rw [e]
            · rfl⟩ ⟨rfl, rfl, rfl, rfl, rfl, rfl, rfl, trivial⟩ ?_
        rintro ⟨k, d1⟩ w2 ⟨h2, f2, m2, hak, hki, hg⟩
        simp only at h2 f2 m2 hak hki hg ⊢
        refine FC.seq ?_
        refine FC.seq (FC.region ?_)
        refine mv_ rfl rfl rfl ?_
        refine mv_ rfl rfl rfl ?_
        refine FL.pur rfl rfl (p_gtr rfl rfl rfl) ?_
        refine FL.nilK ?_
        refine FC.cond (decide ((i : Int) < (k : Int))) rfl (fun hc => FC.skip (thn_normal ?_)) (fun hc => FC.exit ?_)
        rotate_left
        · obtain rfl : k = i := by have := of_decide_eq_false hc; omega
          exact thn_exit (thn_exit (blk_exit ⟨d1, ⟨rfl, rfl, rfl, rfl, rfl, trivial⟩, m2, hbm ▸ sd_down s1 hmi hib q1 q2 hg, h2, f2⟩))
        have hlt : i < k := by have := of_decide_eq_true hc; omega
        obtain ⟨k', rfl⟩ : ∃ k', k = k' + 1 := ⟨k - 1, by omega⟩
        refine FC.seq ?_
        refine FC.block ?_
        have hd := h2.drew
        obtain ⟨c2, c3, u3, h3, f3⟩ := hd.swap (k' + 1) k' (by omega) (by omega)
        have hS := And.intro (hd.cell (k' + 1) (by omega)) c2
        refine (FC.draw (fun w => w.cell? ⟨bd, ((k' + 1 : Nat) : Int).toNat, none⟩ = some (.int .i64 (g d1 (k' + 1))) ∧ w.cell? ⟨bd, (k' : Int).toNat, none⟩ = some (.int .i64 (g d1 k'))) [15, 17] (bA 18 0) (by kernel_rfl) rfl rfl hS ?_)
        refine FA.pur (i := 0) (bA 18 1) rfl (by kernel_rfl) rfl rfl (p_move rfl) ?_
        refine FA.pur (i := 1) (bA 18 3) rfl (by kernel_rfl) rfl rfl (p_move rfl) ?_
        refine FA.pur (i := 2) (bA 18 7) rfl (by kernel_rfl) rfl rfl (p_move rfl) ?_
        refine FA.pur (i := 3) (bA 18 15) rfl (by kernel_rfl) rfl rfl (p_move rfl) ?_
        refine FA.pur (i := 4) (bA 18 31) rfl (by kernel_rfl) rfl rfl (p_sub rfl rfl ((wr (by omega) (by omega)).trans (show ((k' + 1 : Nat) : Int) - 1 = (k' : Int) by omega))) ?_
        refine FA.pur (i := 5) (bA 18 63) rfl (by kernel_rfl) rfl rfl (p_move rfl) ?_
        refine FA.pur (i := 6) (bA 18 127) rfl (by kernel_rfl) rfl rfl (p_move rfl) ?_
        refine FA.pur (i := 7) (bA 18 255) rfl (by kernel_rfl) rfl rfl (p_sub rfl rfl ((wr (by omega) (by omega)).trans (show ((k' + 1 : Nat) : Int) - 1 = (k' : Int) by omega))) ?_
        refine FA.pur (i := 8) (bA 18 511) rfl (by kernel_rfl) rfl rfl (idx41 rfl rfl (by omega) (by omega)) ?_
        refine FA.pur (i := 10) (bA 18 1535) rfl (by kernel_rfl) rfl rfl (p_move rfl) ?_
        refine FA.pur (i := 11) (bA 18 3583) rfl (by kernel_rfl) rfl rfl (p_move rfl) ?_
        refine FA.pur (i := 12) (bA 18 7679) rfl (by kernel_rfl) rfl rfl (idx41 rfl rfl (by omega) (by omega)) ?_
        refine FA.lod (i := 9) (bA 18 8191) rfl (by kernel_rfl) rfl rfl hS (fun _ hs => p_load rfl Try.underlying3 rfl hs.2) ?_
        refine FA.lod (i := 13) (bA 18 16383) rfl (by kernel_rfl) rfl rfl hS (fun _ hs => p_load rfl Try.underlying3 rfl hs.1) ?_
        refine FA.pur (i := 14) (bA 18 32767) rfl (by kernel_rfl) rfl rfl (idx41 rfl rfl (by omega) (by omega)) ?_
        refine FA.lastS (i := 15) _ (bA 18 65535) rfl (by kernel_rfl) (by decide) rfl (st3 rfl rfl rfl hS.1 (hd.row.unfr _)) ?_
        refine FA.pur (i := 16) (bA 18 131071) rfl (by kernel_rfl) rfl rfl (idx41 rfl rfl (by omega) (by omega)) ?_
        refine FA.lastS (i := 17) _ (bA 18 262143) rfl (by kernel_rfl) (by decide) rfl (st3 rfl rfl rfl c3 u3) ?_
        refine FA.done (by kernel_rfl) ?_
        refine blk_normal (thn_normal ?_)
        refine FC.region ?_
        refine mv_ rfl rfl rfl ?_
        refine FL.pur rfl rfl (p_sub rfl rfl ((wr (by omega) (by omega)).trans (show ((k' + 1 : Nat) : Int) - 1 = (k' : Int) by omega))) ?_
        refine sg_ rfl rfl rfl ?_
        refine FL.nil ?_
        have hl2 := h2.len
        refine ⟨(k', swp d1 ((k' + 1 : Nat) : Int) k'), ⟨rfl, rfl, rfl, rfl, rfl, rfl, rfl, trivial⟩, ⟨h3, f2.drew.trans' f3, m2.trans (Mix.swap d1 (k' + 1) k' (by omega) (by omega) (by omega) (by omega) (by omega)), by show i ≤ k'; omega, by show k' ≤ m; omega, fun q => ?_⟩, by show k' < k' + 1; omega⟩
        show g (swp d1 ((k' + 1 : Nat) : Int) k') q = if k' < q ∧ q ≤ m then g d (q - 1) else if q = k' then g d m else g d q
        rw [g_swp d1 (k' + 1) k' q (by omega) (by omega), hg, hg, hg]
        by_cases e1 : q = k'
        · rw [if_pos e1, if_neg (by omega), if_pos rfl, if_neg (by omega), if_pos e1]
        rw [if_neg e1]
        by_cases e2 : q = k' + 1
        · subst e2; rw [if_pos rfl, if_neg (by omega), if_neg (by omega), if_pos (by omega)]; rfl
        rw [if_neg e2]
        by_cases e3 : k' + 1 < q ∧ q ≤ m
        · rw [if_pos e3, if_pos (by omega)]
        · rw [if_neg e3, if_neg e2, if_neg (by omega), if_neg e1]
      · rintro d' w2 ⟨x1, x2, x3, x4⟩
        refine FC.ret ?_
        repeat with_reducible first | refine thn_ret ?_ | refine blk_ret ?_ | refine nog_ret ?_
        exact ret0 Try.results58 ⟨rfl, d', x1, x2, x3, x4⟩
  have hbm : m + 1 < b := by have := of_decide_eq_false hc; omega
  obtain ⟨mid, hmid⟩ : ∃ x, x = (a + b) / 2 := ⟨_, rfl⟩
  obtain ⟨n', hn'⟩ : ∃ x, x = mid + m := ⟨_, rfl⟩
  obtain ⟨lo, hlo⟩ : ∃ x, x = if mid < m then n' - b else a := ⟨_, rfl⟩
  obtain ⟨hi, hhi⟩ : ∃ x, x = if mid < m then mid else m := ⟨_, rfl⟩
  have hb0 : n' ≤ b + lo ∧ a ≤ lo ∧ lo ≤ hi ∧ hi ≤ m ∧ hi ≤ mid := by
    by_cases hc : mid < m
    · rw [if_pos hc] at hlo hhi; omega
    · rw [if_neg hc] at hlo hhi; omega
  obtain ⟨l1, l2, l3, l4, l5⟩ := hb0
  refine FC.seq (FC.region ?_)
  refine mv_ rfl rfl rfl ?_
  refine mv_ rfl rfl rfl ?_
  refine FL.pur rfl rfl (p_add rfl rfl ((wr (by omega) (by omega)).trans (show (a : Int) + b = ((a + b : Nat) : Int) by omega))) ?_
  refine FL.pur rfl rfl (p_conv rfl ⟨_, Try.underlying3⟩ Try.underlying43 (wu (by omega) (by omega))) ?_
  refine FL.pur rfl rfl (p_half rfl rfl (show ((a + b : Nat) : Int) / 2 = (mid : Int) by omega)) ?_
  refine FL.pur rfl rfl (p_conv rfl ⟨_, Try.underlying43⟩ Try.underlying3 (wr (by omega) (by omega))) ?_
  refine sg_ rfl rfl rfl ?_
  refine FL.nilK ?_
  refine FC.seq (FC.region ?_)
  refine mv_ rfl rfl rfl ?_
  refine mv_ rfl rfl rfl ?_
  refine FL.pur rfl rfl (p_add rfl rfl ((wr (by omega) (by omega)).trans (show (mid : Int) + m = (n' : Int) by omega))) ?_
  refine sg_ rfl rfl rfl ?_
  refine FL.nilK ?_
  refine FC.seq (FC.region ?_)
  refine sg_ rfl rfl rfl ?_
  refine sg_ rfl rfl rfl ?_
  refine FL.nilK ?_
  refine FC.cut (σ := Unit) (fun _ => [(0, .slice (some ⟨bd, 0, none⟩) L cap), (1, .int .i64 a), (2, .int .i64 m), (3, .int .i64 b), (4, cmpV cs), (18, .int .i64 mid), (19, .int .i64 n'), (20, .int .i64 lo), (21, .int .i64 hi)]) (fun _ w2 => w = w2) ?_ ?_
  · refine FC.seq (FC.region ?_)
    refine mv_ rfl rfl rfl ?_
    refine mv_ rfl rfl rfl ?_
    refine FL.pur rfl rfl (p_gtr rfl rfl rfl) ?_
    refine FL.nilK ?_
    refine FC.cond (decide ((mid : Int) < (m : Int))) rfl (fun hc => ?_) (fun hc => ?_)
    · have hc' : mid < m := by have := of_decide_eq_true hc; omega
      rw [if_pos hc'] at hlo hhi
      refine FC.seq (FC.region ?_)
      refine mv_ rfl rfl rfl ?_
      refine mv_ rfl rfl rfl ?_
      refine FL.pur rfl rfl (p_sub rfl rfl ((wr (by omega) (by omega)).trans (show (n' : Int) - b = (lo : Int) by omega))) ?_
      refine sg_ rfl rfl rfl ?_
      refine FL.nilK ?_
      refine FC.region ?_
      refine mv_ rfl rfl rfl ?_
      refine sg_ rfl rfl rfl ?_
      refine FL.nil ?_
      exact ⟨(), ⟨rfl, rfl, rfl, rfl, rfl, rfl, rfl, rfl, by rw [hhi]; rfl, trivial⟩, rfl⟩
    · have hc' : ¬ mid < m := by have := of_decide_eq_false hc; omega
      rw [if_neg hc'] at hlo hhi
      refine FC.seq (FC.region ?_)
      refine mv_ rfl rfl rfl ?_
      refine sg_ rfl rfl rfl ?_
      refine FL.nilK ?_
      refine FC.region ?_
      refine mv_ rfl rfl rfl ?_
      refine sg_ rfl rfl rfl ?_
      refine FL.nil ?_
      exact ⟨(), ⟨rfl, rfl, rfl, rfl, rfl, rfl, rfl, by rw [hlo]; rfl, by rw [hhi]; rfl, trivial⟩, rfl⟩
  rintro - w1 rfl
  refine FC.seq (FC.region ?_)
  refine mv_ rfl rfl rfl ?_
  refine FL.pur rfl rfl (p_sub rfl rfl ((wr (by omega) (by omega)).trans (show (n' : Int) - 1 = ((n' - 1 : Nat) : Int) by omega))) ?_
  refine sg_ rfl rfl rfl ?_
  refine FL.nilK ?_
  refine FC.cut (σ := Nat) (fun st => [(0, .slice (some ⟨bd, 0, none⟩) L cap), (1, .int .i64 a), (2, .int .i64 m), (3, .int .i64 b), (4, cmpV cs), (18, .int .i64 mid), (19, .int .i64 n'), (20, .int .i64 st)]) (fun st w2 => On w2 B g0 s V cs bd n cap L d ∧ FrB bd w w2 ∧ lo ≤ st ∧ st ≤ hi ∧ (∀ c, lo ≤ c → c < st → ofv s (g d (n' - 1 - c)) ≤ ofv s (g d c)) ∧ (∀ c, st ≤ c → c < hi → ofv s (g d c) < ofv s (g d (n' - 1 - c)))) ?_ ?_
  · refine FC.block ?_
    refine FC.loop (σ := Nat × Nat) (fun x => [(0, .slice (some ⟨bd, 0, none⟩) L cap), (1, .int .i64 a), (2, .int .i64 m), (3, .int .i64 b), (4, cmpV cs), (18, .int .i64 mid), (19, .int .i64 n'), (20, .int .i64 x.1), (21, .int .i64 x.2), (22, .int .i64 ((n' - 1 : Nat) : Int))]) (fun x w2 => On w2 B g0 s V cs bd n cap L d ∧ FrB bd w w2 ∧ lo ≤ x.1 ∧ x.1 ≤ x.2 ∧ x.2 ≤ hi ∧ (∀ c, lo ≤ c → c < x.1 → ofv s (g d (n' - 1 - c)) ≤ ofv s (g d c)) ∧ (∀ c, x.2 ≤ c → c < hi → ofv s (g d c) < ofv s (g d (n' - 1 - c))))
      (fun x => x.2 - x.1) (lo, hi) ⟨h, Fr.refl _ _, Nat.le_refl _, l3, Nat.le_refl _, fun q h1 h2 => absurd h2 (Nat.not_lt.2 h1), fun q h1 h2 => absurd h2 (Nat.not_lt.2 h1)⟩ ⟨rfl, rfl, rfl, rfl, rfl, rfl, rfl, rfl, rfl, rfl, trivial⟩ ?_
    rintro ⟨i, j⟩ w1 ⟨h1, f1, hmi, hij, hjb, q1, q2⟩
    simp only at h1 f1 hmi hij hjb q1 q2 ⊢
    refine FC.seq ?_
    refine FC.seq (FC.region ?_)
    refine mv_ rfl rfl rfl ?_
    refine mv_ rfl rfl rfl ?_
    refine FL.pur rfl rfl (p_lss rfl rfl rfl) ?_
    refine FL.nilK ?_
    refine FC.cond (decide ((i : Int) < (j : Int))) rfl (fun hc => FC.skip (thn_normal ?_)) (fun hc => FC.exit ?_)
    rotate_left
    · obtain rfl : i = j := by have := of_decide_eq_false hc; omega
      exact thn_exit (thn_exit (blk_exit ⟨i, ⟨rfl, rfl, rfl, rfl, rfl, rfl, rfl, rfl, trivial⟩, h1, f1, hmi, hjb, q1, q2⟩))
    have hlt : i < j := by have := of_decide_eq_true hc; omega
    obtain ⟨x, hx⟩ : ∃ x, x = (i + j) / 2 := ⟨_, rfl⟩
    refine FC.block ?_
    refine FC.seq (FC.region ?_)
    refine mv_ rfl rfl rfl ?_
    refine mv_ rfl rfl rfl ?_
    refine FL.pur rfl rfl (p_add rfl rfl ((wr (by omega) (by omega)).trans (show (i : Int) + j = ((i + j : Nat) : Int) by omega))) ?_
    refine FL.pur rfl rfl (p_conv rfl ⟨_, Try.underlying3⟩ Try.underlying43 (wu (by omega) (by omega))) ?_
    refine FL.pur rfl rfl (p_half rfl rfl (show ((i + j : Nat) : Int) / 2 = (x : Int) by omega)) ?_
    refine FL.pur rfl rfl (p_conv rfl ⟨_, Try.underlying43⟩ Try.underlying3 (wr (by omega) (by omega))) ?_
    refine sg_ rfl rfl rfl ?_
    refine FL.nilK ?_
    have hd := h1.drew
    have hS := And.intro (hd.cell (n' - 1 - x) (by omega)) (hd.cell x (by omega))
    refine FC.seq (FC.draw (fun w => w.cell? ⟨bd, ((n' - 1 - x : Nat) : Int).toNat, none⟩ = some (.int .i64 (g d (n' - 1 - x))) ∧ w.cell? ⟨bd, (x : Int).toNat, none⟩ = some (.int .i64 (g d x))) [11] (bA 14 0) (by kernel_rfl) rfl rfl hS ?_)
    refine FA.pur (i := 0) (bA 14 1) rfl (by kernel_rfl) rfl rfl (p_move rfl) ?_
    refine FA.pur (i := 1) (bA 14 3) rfl (by kernel_rfl) rfl rfl (p_move rfl) ?_
    refine FA.pur (i := 2) (bA 14 7) rfl (by kernel_rfl) rfl rfl (p_move rfl) ?_
    refine FA.pur (i := 3) (bA 14 15) rfl (by kernel_rfl) rfl rfl (p_move rfl) ?_
    refine FA.pur (i := 4) (bA 14 31) rfl (by kernel_rfl) rfl rfl (p_sub rfl rfl ((wr (by omega) (by omega)).trans (show ((n' - 1 : Nat) : Int) - x = ((n' - 1 - x : Nat) : Int) by omega))) ?_
    refine FA.pur (i := 5) (bA 14 63) rfl (by kernel_rfl) rfl rfl (idx41 rfl rfl (by omega) (by omega)) ?_
    refine FA.pur (i := 7) (bA 14 191) rfl (by kernel_rfl) rfl rfl (p_move rfl) ?_
    refine FA.pur (i := 8) (bA 14 447) rfl (by kernel_rfl) rfl rfl (p_move rfl) ?_
    refine FA.pur (i := 9) (bA 14 959) rfl (by kernel_rfl) rfl rfl (idx41 rfl rfl (by omega) (by omega)) ?_
    refine FA.lod (i := 6) (bA 14 1023) rfl (by kernel_rfl) rfl rfl hS (fun _ hs => p_load rfl Try.underlying3 rfl hs.1) ?_
    refine FA.lod (i := 10) (bA 14 2047) rfl (by kernel_rfl) rfl rfl hS (fun _ hs => p_load rfl Try.underlying3 rfl hs.2) ?_
    refine FA.lastC (i := 11) (bA 14 4095) rfl (by kernel_rfl) (by decide) rfl rfl (p_callv (cap := [.pointer (some ⟨cs, 0, none⟩)]) rfl Try.func35 rfl rfl rfl) (cmp_calls hd.ctx _ _ (hd.at _ (by omega)) (hd.at _ (by omega))) ?_
    rintro e_ w_ ⟨rfl, rfl⟩
    refine ⟨_, rfl, ?_⟩
    refine FA.pur (i := 12) (bA 14 8191) rfl (by kernel_rfl) rfl rfl (p_lss rfl rfl rfl) ?_
    refine FA.pur (i := 13) (bA 14 16383) rfl (by kernel_rfl) rfl rfl (p_not rfl) ?_
    refine FA.doneK (by kernel_rfl) ?_
    refine FC.cond (!decide (ofv s (g d x) - ofv s (g d (n' - 1 - x)) < 0)) rfl (fun hc => ?_) (fun hc => ?_)
    · have hlt2 : ofv s (g d (n' - 1 - x)) ≤ ofv s (g d x) := by
        simp only [Bool.not_eq_true', decide_eq_false_iff_not] at hc
        omega
      refine FC.region ?_
      refine mv_ rfl rfl rfl ?_
      refine FL.pur rfl rfl (p_add rfl rfl ((wr (by omega) (by omega)).trans (show (x : Int) + 1 = ((x + 1 : Nat) : Int) by omega))) ?_
      refine sg_ rfl rfl rfl ?_
      refine FL.nil ?_
      refine blk_normal ⟨(x + 1, j), ⟨rfl, rfl, rfl, rfl, rfl, rfl, rfl, rfl, rfl, rfl, trivial⟩, ⟨hd.drew, f1.drew.drew, by show lo ≤ x + 1; omega, by show x + 1 ≤ j; omega, hjb, fun c h1 h2 => Int.le_trans (s2.le (by omega) (by omega) (by omega)) (Int.le_trans hlt2 (s1.le (by omega) (Nat.le_of_lt_succ h2) (by omega))), q2⟩, by show j - (x + 1) < j - i; omega⟩
    · have hlt2 : ofv s (g d x) < ofv s (g d (n' - 1 - x)) := by
        simp only [Bool.not_eq_false', decide_eq_true_eq] at hc
        omega
      refine FC.region ?_
      refine mv_ rfl rfl rfl ?_
      refine sg_ rfl rfl rfl ?_
      refine FL.nil ?_
      refine blk_normal ⟨(i, x), ⟨rfl, rfl, rfl, rfl, rfl, rfl, rfl, rfl, rfl, rfl, trivial⟩, ⟨hd.drew, f1.drew.drew, hmi, by show i ≤ x; omega, by show x ≤ hi; omega, q1, fun c h1 h2 => Int.lt_of_le_of_lt (s1.le (by omega) h1 (by omega)) (Int.lt_of_lt_of_le hlt2 (s2.le (by omega) (by omega) (by omega)))⟩, by show x - i < j - i; omega⟩
  rintro st w1 ⟨h1, f1, k1, k2, q1, q2⟩
  refine FC.seq (FC.region ?_)
  refine mv_ rfl rfl rfl ?_
  refine mv_ rfl rfl rfl ?_
  refine FL.pur rfl rfl (p_sub rfl rfl ((wr (by omega) (by omega)).trans (show (n' : Int) - st = ((n' - st : Nat) : Int) by omega))) ?_
  refine sg_ rfl rfl rfl ?_
  refine FL.nilK ?_
  have hst : st ≤ m ∧ m ≤ n' - st ∧ n' - st ≤ b ∧ a ≤ st ∧ st ≤ mid ∧ mid ≤ n' - st := by omega
  obtain ⟨t1, t2, t3, t4, t5, t6⟩ := hst
  refine FC.cut (σ := List Int) (fun _ => [(0, .slice (some ⟨bd, 0, none⟩) L cap), (1, .int .i64 a), (2, .int .i64 m), (3, .int .i64 b), (4, cmpV cs), (18, .int .i64 mid), (20, .int .i64 st), (24, .int .i64 ((n' - st : Nat) : Int))]) (fun d1 w2 => On w2 B g0 s V cs bd n cap L d1 ∧ FrB bd w w2 ∧ Rot st m (n' - st) d d1) ?_ ?_
  · by_cases c1 : st < m
    · refine FC.seq (FC.region ?_)
      refine mv_ rfl rfl rfl ?_
      refine mv_ rfl rfl rfl ?_
      refine FL.pur rfl rfl (p_lss rfl rfl (decide_eq_true (show (st : Int) < m by omega))) ?_
      refine mv_ rfl rfl rfl ?_
      refine mv_ rfl rfl rfl ?_
      refine mv_ rfl rfl rfl ?_
      refine FL.pur rfl rfl (p_lss rfl rfl rfl) ?_
      refine FL.pur rfl rfl (p_pick_t rfl rfl) ?_
      refine FL.nilK ?_
      refine FC.cond (decide ((m : Int) < ((n' - st : Nat) : Int))) rfl (fun hc => ?_) (fun hc => FC.skip ?_)
      · have c2 : m < n' - st := by have := of_decide_eq_true hc; omega
        refine FC.region ?_
        refine mv_ rfl rfl rfl ?_
        refine mv_ rfl rfl rfl ?_
        refine mv_ rfl rfl rfl ?_
        refine mv_ rfl rfl rfl ?_
        refine mv_ rfl rfl rfl ?_
        refine FL.call rfl rfl (p_call Try.func59 rfl rfl rfl) (rotate_calls h1.row h1.len (cmpV cs) st m (n' - st) c1 c2 (by omega)) ?_
        rintro e_ w_ ⟨rfl, d1, hr, r2, f2⟩
        refine ⟨_, rfl, ?_⟩
        refine FL.nil ?_
        exact ⟨d1, ⟨rfl, rfl, rfl, rfl, rfl, rfl, rfl, rfl, trivial⟩, h1.mix r2 f2 hr.mix, f1.trans' f2, hr⟩
      · have c2 : ¬ m < n' - st := by have := of_decide_eq_false hc; omega
        exact ⟨d, ⟨rfl, rfl, rfl, rfl, rfl, rfl, rfl, rfl, trivial⟩, h1, f1, Rot.none (fun e => c2 e.2) t1 t2⟩
    · refine FC.seq (FC.region ?_)
      refine mv_ rfl rfl rfl ?_
      refine mv_ rfl rfl rfl ?_
      refine FL.pur rfl rfl (p_lss rfl rfl (decide_eq_false (show ¬ (st : Int) < m by omega))) ?_
      refine mv_ rfl rfl rfl ?_
      refine FL.off rfl rfl ?_
      refine FL.off rfl rfl ?_
      refine FL.off rfl rfl ?_
      refine FL.pur rfl rfl (p_pick_f rfl rfl) ?_
      refine FL.nilK ?_
      refine FC.cond_f rfl (FC.skip ?_)
      exact ⟨d, ⟨rfl, rfl, rfl, rfl, rfl, rfl, rfl, rfl, trivial⟩, h1, f1, Rot.none (fun e => c1 e.1) t1 t2⟩
  rintro d1 w2 ⟨h2, f2, hr⟩
  have H := halves ham hmb s1 s2 hmid hn' hlo hhi k1 k2 q1 q2 hr
  have hL2 := h2.len
  refine FC.cut (σ := List Int) (fun _ => [(0, .slice (some ⟨bd, 0, none⟩) L cap), (1, .int .i64 a), (2, .int .i64 m), (3, .int .i64 b), (4, cmpV cs), (18, .int .i64 mid), (24, .int .i64 ((n' - st : Nat) : Int))]) (fun d2 w2 => On w2 B g0 s V cs bd n cap L d2 ∧ FrB bd w w2 ∧ Mix a mid d1 d2 ∧ Sd (ofv s) d2 a mid) ?_ ?_
  · by_cases c1 : a < st
    · refine FC.seq (FC.region ?_)
      refine mv_ rfl rfl rfl ?_
      refine mv_ rfl rfl rfl ?_
      refine FL.pur rfl rfl (p_lss rfl rfl (decide_eq_true (show (a : Int) < st by omega))) ?_
      refine mv_ rfl rfl rfl ?_
      refine mv_ rfl rfl rfl ?_
      refine mv_ rfl rfl rfl ?_
      refine FL.pur rfl rfl (p_lss rfl rfl rfl) ?_
      refine FL.pur rfl rfl (p_pick_t rfl rfl) ?_
      refine FL.nilK ?_
      refine FC.cond (decide ((st : Int) < (mid : Int))) rfl (fun hc => ?_) (fun hc => FC.skip ?_)
      · have c2 : st < mid := by have := of_decide_eq_true hc; omega
        refine FC.region ?_
        refine mv_ rfl rfl rfl ?_
        refine mv_ rfl rfl rfl ?_
        refine mv_ rfl rfl rfl ?_
        refine mv_ rfl rfl rfl ?_
        refine mv_ rfl rfl rfl ?_
        refine FL.call rfl rfl (p_call Try.func58 rfl rfl rfl) (symMerge_calls hcap fuel h2 a st mid c1 c2 (by omega) (by omega) H.a1 H.a2) ?_
        rintro e_ w_ ⟨rfl, d2, m2, sd2, h3, f3⟩
        refine ⟨_, rfl, ?_⟩
        refine FL.nil ?_
        exact ⟨d2, ⟨rfl, rfl, rfl, rfl, rfl, rfl, rfl, trivial⟩, h3, f2.trans' f3, m2, sd2⟩
      · have c2 : st = mid := by have := of_decide_eq_false hc; omega
        exact ⟨d1, ⟨rfl, rfl, rfl, rfl, rfl, rfl, rfl, trivial⟩, h2, f2, .refl _ _ _, c2 ▸ H.a1⟩
    · refine FC.seq (FC.region ?_)
      refine mv_ rfl rfl rfl ?_
      refine mv_ rfl rfl rfl ?_
      refine FL.pur rfl rfl (p_lss rfl rfl (decide_eq_false (show ¬ (a : Int) < st by omega))) ?_
      refine mv_ rfl rfl rfl ?_
      refine FL.off rfl rfl ?_
      refine FL.off rfl rfl ?_
      refine FL.off rfl rfl ?_
      refine FL.pur rfl rfl (p_pick_f rfl rfl) ?_
      refine FL.nilK ?_
      refine FC.cond_f rfl (FC.skip ?_)
      have c2 : st = a := by omega
      exact ⟨d1, ⟨rfl, rfl, rfl, rfl, rfl, rfl, rfl, trivial⟩, h2, f2, .refl _ _ _, c2 ▸ H.a2⟩
  rintro d2 w3 ⟨h3, f3, m2, sd2⟩
  have fin : ∀ d3, Mix mid b d2 d3 → Sd (ofv s) d3 mid b → Mix a b d d3 ∧ Sd (ofv s) d3 a b := fun d3 m3 sd3 => ⟨(hr.mix.wide t4 t3).trans ((m2.wide (Nat.le_refl _) (by omega)).trans (m3.wide (by omega) (Nat.le_refl _))), Sd.of_halves (by omega) (by omega) H.ab m2 sd2 m3 sd3⟩
  have b1 := H.b1.out m2 (.inr (Nat.le_refl _))
  have b2 := H.b2.out m2 (.inr t6)
  by_cases c1 : mid < n' - st
  · refine FC.seq (FC.region ?_)
    refine mv_ rfl rfl rfl ?_
    refine mv_ rfl rfl rfl ?_
    refine FL.pur rfl rfl (p_lss rfl rfl (decide_eq_true (show (mid : Int) < ((n' - st : Nat) : Int) by omega))) ?_
    refine mv_ rfl rfl rfl ?_
    refine mv_ rfl rfl rfl ?_
    refine mv_ rfl rfl rfl ?_
    refine FL.pur rfl rfl (p_lss rfl rfl rfl) ?_
    refine FL.pur rfl rfl (p_pick_t rfl rfl) ?_
    refine FL.nilK ?_
    refine FC.cond (decide (((n' - st : Nat) : Int) < (b : Int))) rfl (fun hc => ?_) (fun hc => FC.skip ?_)
    · have c2 : n' - st < b := by have := of_decide_eq_true hc; omega
      refine FC.region ?_
      refine mv_ rfl rfl rfl ?_
      refine mv_ rfl rfl rfl ?_
      refine mv_ rfl rfl rfl ?_
      refine mv_ rfl rfl rfl ?_
      refine mv_ rfl rfl rfl ?_
      refine FL.call rfl rfl (p_call Try.func58 rfl rfl rfl) (symMerge_calls hcap fuel h3 mid (n' - st) b c1 c2 hb (by omega) b1 b2) ?_
      rintro e_ w_ ⟨rfl, d3, m3, sd3, h4, f4⟩
      refine ⟨_, rfl, ?_⟩
      refine FL.nil ?_
      obtain ⟨y1, y2⟩ := fin d3 m3 sd3
      exact end0 Try.results58 ⟨rfl, d3, y1, y2, h4, f3.trans' f4⟩
    · have c2 : n' - st = b := by have := of_decide_eq_false hc; omega
      obtain ⟨y1, y2⟩ := fin d2 (.refl _ _ _) (c2 ▸ b1)
      exact end0 Try.results58 ⟨rfl, d2, y1, y2, h3, f3⟩
  · refine FC.seq (FC.region ?_)
    refine mv_ rfl rfl rfl ?_
    refine mv_ rfl rfl rfl ?_
    refine FL.pur rfl rfl (p_lss rfl rfl (decide_eq_false (show ¬ (mid : Int) < ((n' - st : Nat) : Int) by omega))) ?_
    refine mv_ rfl rfl rfl ?_
    refine FL.off rfl rfl ?_
    refine FL.off rfl rfl ?_
    refine FL.off rfl rfl ?_
    refine FL.pur rfl rfl (p_pick_f rfl rfl) ?_
    refine FL.nilK ?_
    refine FC.cond_f rfl (FC.skip ?_)
    have c2 : n' - st = mid := by omega
    obtain ⟨y1, y2⟩ := fin d2 (.refl _ _ _) (c2 ▸ b2)
    exact end0 Try.results58 ⟨rfl, d2, y1, y2, h3, f3⟩
end
end Go.Proofs.Ytcahhbcehnbdkaa.Sv

/- Walk of the stable sort. -/
namespace Go.Proofs.Ytcahhbcehnbdkaa.Sv
open Go.RowKit Go.Proofs.YtcahhbcehnbdkaaW.PrintWords Go.Proofs.YtcahhbcehnbdkaaW.PrintLast Go.Proofs.Ytcahhbcehnbdkaa.Eng

section
variable {B g0 : Nat} {s : S} {V : Lay} {cs bd n cap L : Nat}
theorem ltS_iff (s : S) (x y : Int) : ltS s x y = true ↔ ofv s y < ofv s x := by
  unfold ltS
  rw [decide_eq_true_eq]
  omega
theorem insert_calls {w : World} {d : List Int} (h : On w B g0 s V cs bd n cap L d) (hn : n < 1099511627776) (a b : Nat) (ha : a < 4611686018427387904) (hb : b ≤ L) :
    Calls Try.prog 57 #[.slice (some ⟨bd, 0, none⟩) L cap, .int .i64 a, .int .i64 b, cmpV cs] w fun e w' => e = .returned (.tuple #[]) ∧ ∃ d', Mix a b d d' ∧ Sd (ofv s) d' a b ∧ On w' B g0 s V cs bd n cap L d' ∧ FrB bd w w' := by
  have hl := h.len
  subst hl
  refine Calls.mono (insertion_calls h.ctx h.row h.lit hn a b ha hb) fun e w' hp => ?_
  obtain ⟨m1, s1⟩ := insertS_spec (ofv s) (ltS s) (ltS_iff s) d a b hb
  exact ⟨hp.1, _, m1, s1, h.mix hp.2.1 hp.2.2 m1, hp.2.2⟩

/-- All whole ranges of z before q are sorted. -/
def Runs (k : Int → Int) (z : Nat) (d : List Int) (lo hi : Nat) : Prop := ∀ a, lo ≤ z * a → z * a < hi → Sd k d (z * a) (min (z * a + z) hi)

set_option maxHeartbeats 1000000 in
theorem stable_calls (hcap : L < 1152921504606846976) (hn : n < 1099511627776) {w : World} {d : List Int} (h : On w B g0 s V cs bd n cap L d) :
    Calls Try.prog 45 #[.slice (some ⟨bd, 0, none⟩) L cap, .int .i64 L, cmpV cs] w fun e w' => e = .returned (.tuple #[]) ∧ ∃ d', Mix 0 L d d' ∧ Sd (ofv s) d' 0 L ∧ On w' B g0 s V cs bd n cap L d' ∧ FrB bd w w' := by
  refine calls_of_FC (N := 63) (vs := [.slice (some ⟨bd, 0, none⟩) L cap, .int .i64 L, cmpV cs]) Try.func45 rfl Try.ntmps45 (Nat.le_of_ble_eq_true rfl) ?_
  refine FC.seq (FC.region ?_)
  refine sg_ rfl rfl rfl ?_
  refine FL.nilK ?_
  refine FC.seq (FC.region ?_)
  refine mv_ rfl rfl rfl ?_
  refine sg_ rfl rfl rfl ?_
  refine sg_ rfl rfl rfl ?_
  refine FL.nilK ?_
  refine FC.cut (σ := List Int × Nat) (fun x => [(0, .slice (some ⟨bd, 0, none⟩) L cap), (1, .int .i64 L), (2, cmpV cs), (6, .int .i64 20), (7, .int .i64 ((20 * x.2 : Nat) : Int))]) (fun x w2 => On w2 B g0 s V cs bd n cap L x.1 ∧ FrB bd w w2 ∧ Mix 0 L d x.1 ∧ 20 * x.2 ≤ L ∧ L < 20 * x.2 + 20 ∧ ∀ c, c < x.2 → Sd (ofv s) x.1 (20 * c) (20 * c + 20)) ?_ ?_
  · refine FC.block ?_
    refine FC.loop (σ := List Int × Nat) (fun x => [(0, .slice (some ⟨bd, 0, none⟩) L cap), (1, .int .i64 L), (2, cmpV cs), (6, .int .i64 20), (7, .int .i64 ((20 * x.2 : Nat) : Int)), (8, .int .i64 ((20 * x.2 + 20 : Nat) : Int))]) (fun x w2 => On w2 B g0 s V cs bd n cap L x.1 ∧ FrB bd w w2 ∧ Mix 0 L d x.1 ∧ 20 * x.2 ≤ L ∧ ∀ c, c < x.2 → Sd (ofv s) x.1 (20 * c) (20 * c + 20))
      (fun x => L - 20 * x.2) (d, 0) ⟨h, Fr.refl _ _, .refl _ _ _, Nat.zero_le _, fun c hc => absurd hc (Nat.not_lt_zero c)⟩ ⟨rfl, rfl, rfl, rfl, rfl, rfl, trivial⟩ ?_
    rintro ⟨d1, x⟩ w1 ⟨h1, f1, m1, hx, hs⟩
    simp only at h1 f1 m1 hx hs ⊢
    refine FC.seq ?_
    refine FC.seq (FC.region ?_)
    refine mv_ rfl rfl rfl ?_
    refine mv_ rfl rfl rfl ?_
    refine FL.pur rfl rfl (p_leq rfl rfl rfl) ?_
    refine FL.nilK ?_
    refine FC.cond (decide (((20 * x + 20 : Nat) : Int) ≤ (L : Int))) rfl (fun hc => FC.skip (thn_normal ?_)) (fun hc => FC.exit ?_)
    rotate_left
    · have hlt : ¬ 20 * x + 20 ≤ L := by have := of_decide_eq_false hc; omega
      exact thn_exit (thn_exit (blk_exit ⟨(d1, x), ⟨rfl, rfl, rfl, rfl, rfl, trivial⟩, h1, f1, m1, hx, by show L < 20 * x + 20; omega, hs⟩))
    have hle : 20 * x + 20 ≤ L := by have := of_decide_eq_true hc; omega
    refine FC.block ?_
    refine FC.seq (FC.region ?_)
    refine mv_ rfl rfl rfl ?_
    refine mv_ rfl rfl rfl ?_
    refine mv_ rfl rfl rfl ?_
    refine mv_ rfl rfl rfl ?_
    refine FL.call rfl rfl (p_call Try.func57 rfl rfl rfl) (insert_calls h1 hn (20 * x) (20 * x + 20) (by omega) hle) ?_
    rintro e_ w_ ⟨rfl, d2, m2, sd2, h2, f2⟩
    refine ⟨_, rfl, ?_⟩
    refine FL.nilK ?_
    refine FC.seq (FC.region ?_)
    refine mv_ rfl rfl rfl ?_
    refine sg_ rfl rfl rfl ?_
    refine FL.nilK ?_
    refine FC.region ?_
    refine mv_ rfl rfl rfl ?_
    refine mv_ rfl rfl rfl ?_
    refine FL.pur rfl rfl (p_add rfl rfl ((wr (by omega) (by omega)).trans (show ((20 * x + 20 : Nat) : Int) + 20 = ((20 * (x + 1) + 20 : Nat) : Int) by omega))) ?_
    refine sg_ rfl rfl rfl ?_
    refine FL.nil ?_
    refine blk_normal ⟨(d2, x + 1), ⟨rfl, rfl, rfl, rfl, by rw [show 20 * (x + 1) = 20 * x + 20 by omega]; rfl, rfl, trivial⟩, ⟨h2, f1.trans' f2, m1.trans (m2.wide (Nat.zero_le _) hle), by show 20 * (x + 1) ≤ L; omega, fun c hc => ?_⟩, by show L - 20 * (x + 1) < L - 20 * x; omega⟩
    by_cases e : c = x
    · subst e; exact sd2
    · have hc' : c < x := by simp only at hc; omega
      exact (hs c hc').out m2 (.inl (by omega))
  rintro ⟨d1, x⟩ w1 ⟨h1, f1, m1, hx, hx', hs⟩
  simp only at h1 f1 m1 hx hx' hs ⊢
  refine FC.seq (FC.region ?_)
  refine mv_ rfl rfl rfl ?_
  refine mv_ rfl rfl rfl ?_
  refine mv_ rfl rfl rfl ?_
  refine mv_ rfl rfl rfl ?_
  refine FL.call rfl rfl (p_call Try.func57 rfl rfl rfl) (insert_calls h1 hn (20 * x) L (by omega) (Nat.le_refl _)) ?_
  rintro e_ w_ ⟨rfl, d2, m2, sd2, h2, f2⟩
  refine ⟨_, rfl, ?_⟩
  refine FL.nilK ?_
  have m2' := m1.trans (m2.wide (Nat.zero_le _) (Nat.le_refl _))
  have f2' := f1.trans' f2
  have hrun : Runs (ofv s) 20 d2 0 L := fun c _ hc => by
    by_cases e : c = x
    · subst e; rw [Nat.min_eq_right (by omega)]; exact sd2
    · have hc' : c < x := by omega
      rw [Nat.min_eq_left (by omega)]
      exact (hs c hc').out m2 (.inl (by omega))
  refine FC.block ?_
  refine FC.loop (σ := List Int × Nat) (fun x => [(0, .slice (some ⟨bd, 0, none⟩) L cap), (1, .int .i64 L), (2, cmpV cs), (6, .int .i64 x.2)]) (fun x w2 => On w2 B g0 s V cs bd n cap L x.1 ∧ FrB bd w w2 ∧ Mix 0 L d x.1 ∧ 0 < x.2 ∧ x.2 < 2305843009213693952 ∧ Runs (ofv s) x.2 x.1 0 L)
    (fun x => L - x.2) (d2, 20) ⟨h2, f2', m2', by show 0 < 20; omega, by show 20 < 2305843009213693952; omega, hrun⟩ ⟨rfl, rfl, rfl, rfl, trivial⟩ ?_
  clear hrun m2' f2' h2 f2 m2 sd2 hs hx hx' h1 f1 m1
  rintro ⟨d1, z⟩ w1 ⟨h1, f1, m1, hz0, hz, hrun⟩
  simp only at h1 f1 m1 hz0 hz hrun ⊢
  refine FC.seq ?_
  refine FC.seq (FC.region ?_)
  refine mv_ rfl rfl rfl ?_
  refine mv_ rfl rfl rfl ?_
  refine FL.pur rfl rfl (p_lss rfl rfl rfl) ?_
  refine FL.nilK ?_
  refine FC.cond (decide ((z : Int) < (L : Int))) rfl (fun hc => FC.skip (thn_normal ?_)) (fun hc => FC.exit ?_)
  rotate_left
  · have hge : ¬ z < L := by have := of_decide_eq_false hc; omega
    refine thn_exit (thn_exit (blk_exit (end0 Try.results45 ⟨rfl, d1, m1, ?_, h1, f1⟩)))
    by_cases h0 : 0 < L
    · have := hrun 0 (Nat.zero_le _) (by omega)
      rwa [Nat.mul_zero, Nat.zero_add, Nat.min_eq_right (by omega)] at this
    · exact fun i j _ _ hj => absurd hj (by omega)
  have hlt : z < L := by have := of_decide_eq_true hc; omega
  refine FC.block ?_
  refine FC.seq (FC.region ?_)
  refine mv_ rfl rfl rfl ?_
  refine FL.pur rfl rfl (p_mul rfl rfl ((wr (by omega) (by omega)).trans (show 2 * (z : Int) = ((2 * z : Nat) : Int) by omega))) ?_
  refine sg_ rfl rfl rfl ?_
  refine sg_ rfl rfl rfl ?_
  refine FL.nilK ?_
  have hp : ∀ x, 2 * z * (x + 1) = 2 * z * x + 2 * z := fun x => Nat.mul_succ _ _
  have hp2 : ∀ x, z * (2 * x) = 2 * z * x := fun x => by rw [Nat.mul_comm 2 x, ← Nat.mul_assoc, Nat.mul_comm (z * x) 2, ← Nat.mul_assoc]
  have hp3 : ∀ x, z * (2 * x + 1) = 2 * z * x + z := fun x => by rw [Nat.mul_succ, hp2]
  refine FC.cut (σ := List Int × Nat) (fun x => [(0, .slice (some ⟨bd, 0, none⟩) L cap), (1, .int .i64 L), (2, cmpV cs), (6, .int .i64 z), (7, .int .i64 ((2 * z * x.2 : Nat) : Int))]) (fun x w2 => On w2 B g0 s V cs bd n cap L x.1 ∧ FrB bd w w2 ∧ Mix 0 L d x.1 ∧ 2 * z * x.2 ≤ L ∧ L < 2 * z * x.2 + 2 * z ∧ (∀ c, c < x.2 → Sd (ofv s) x.1 (2 * z * c) (2 * z * c + 2 * z)) ∧ ∀ c, 2 * x.2 ≤ c → z * c < L → Sd (ofv s) x.1 (z * c) (min (z * c + z) L)) ?_ ?_
  · refine FC.block ?_
    refine FC.loop (σ := List Int × Nat) (fun x => [(0, .slice (some ⟨bd, 0, none⟩) L cap), (1, .int .i64 L), (2, cmpV cs), (6, .int .i64 z), (7, .int .i64 ((2 * z * x.2 : Nat) : Int)), (8, .int .i64 ((2 * z * x.2 + 2 * z : Nat) : Int))]) (fun x w2 => On w2 B g0 s V cs bd n cap L x.1 ∧ FrB bd w w2 ∧ Mix 0 L d x.1 ∧ 2 * z * x.2 ≤ L ∧ (∀ c, c < x.2 → Sd (ofv s) x.1 (2 * z * c) (2 * z * c + 2 * z)) ∧ ∀ c, 2 * x.2 ≤ c → z * c < L → Sd (ofv s) x.1 (z * c) (min (z * c + z) L))
      (fun x => L - 2 * z * x.2) (d1, 0) ⟨h1, f1, m1, Nat.zero_le _, fun c hc => absurd hc (Nat.not_lt_zero c), fun c _ hc => hrun c (Nat.zero_le _) hc⟩ ⟨rfl, rfl, rfl, rfl, rfl, by simp only [Nat.mul_zero, Nat.zero_add]; rfl, trivial⟩ ?_
    clear hrun h1 f1 m1
    rintro ⟨d2, x⟩ w2 ⟨h2, f2, m2, hx, hs, hr⟩
    simp only at h2 f2 m2 hx hs hr ⊢
    refine FC.seq ?_
    refine FC.seq (FC.region ?_)
    refine mv_ rfl rfl rfl ?_
    refine mv_ rfl rfl rfl ?_
    refine FL.pur rfl rfl (p_leq rfl rfl rfl) ?_
    refine FL.nilK ?_
    refine FC.cond (decide (((2 * z * x + 2 * z : Nat) : Int) ≤ (L : Int))) rfl (fun hc => FC.skip (thn_normal ?_)) (fun hc => FC.exit ?_)
    rotate_left
    · have hlt : ¬ 2 * z * x + 2 * z ≤ L := by have := of_decide_eq_false hc; omega
      exact thn_exit (thn_exit (blk_exit ⟨(d2, x), ⟨rfl, rfl, rfl, rfl, rfl, trivial⟩, h2, f2, m2, hx, by show L < 2 * z * x + 2 * z; omega, hs, hr⟩))
    have hle : 2 * z * x + 2 * z ≤ L := by have := of_decide_eq_true hc; omega
    have r1 := hr (2 * x) (Nat.le_refl _) (by rw [hp2]; omega)
    rw [hp2, Nat.min_eq_left (by omega)] at r1
    have r2 := hr (2 * x + 1) (by omega) (by rw [hp3]; omega)
    rw [hp3, Nat.min_eq_left (by omega), show 2 * z * x + z + z = 2 * z * x + 2 * z by omega] at r2
    refine FC.block ?_
    refine FC.seq (FC.region ?_)
    refine mv_ rfl rfl rfl ?_
    refine mv_ rfl rfl rfl ?_
    refine mv_ rfl rfl rfl ?_
    refine mv_ rfl rfl rfl ?_
    refine FL.pur rfl rfl (p_add rfl rfl ((wr (by omega) (by omega)).trans (show ((2 * z * x : Nat) : Int) + z = ((2 * z * x + z : Nat) : Int) by omega))) ?_
    refine mv_ rfl rfl rfl ?_
    refine mv_ rfl rfl rfl ?_
    refine FL.call rfl rfl (p_call Try.func58 rfl rfl rfl) (symMerge_calls (by omega) _ h2 (2 * z * x) (2 * z * x + z) (2 * z * x + 2 * z) (by omega) (by omega) hle (Nat.le_refl _) r1 r2) ?_
    rintro e_ w_ ⟨rfl, d3, m3, sd3, h3, f3⟩
    refine ⟨_, rfl, ?_⟩
    refine FL.nilK ?_
    refine FC.seq (FC.region ?_)
    refine mv_ rfl rfl rfl ?_
    refine sg_ rfl rfl rfl ?_
    refine FL.nilK ?_
    refine FC.region ?_
    refine mv_ rfl rfl rfl ?_
    refine mv_ rfl rfl rfl ?_
    refine FL.pur rfl rfl (p_mul rfl rfl ((wr (by omega) (by omega)).trans (show 2 * (z : Int) = ((2 * z : Nat) : Int) by omega))) ?_
    refine FL.pur rfl rfl (p_add rfl rfl ((wr (by omega) (by omega)).trans (show ((2 * z * x + 2 * z : Nat) : Int) + ((2 * z : Nat) : Int) = ((2 * z * (x + 1) + 2 * z : Nat) : Int) by rw [hp]; omega))) ?_
    refine sg_ rfl rfl rfl ?_
    refine FL.nil ?_
    have hx1 : L - 2 * z * (x + 1) < L - 2 * z * x := by rw [hp]; omega
    refine blk_normal ⟨(d3, x + 1), ⟨rfl, rfl, rfl, rfl, by rw [hp]; rfl, rfl, trivial⟩, ⟨h3, f2.trans' f3, m2.trans (m3.wide (Nat.zero_le _) hle), by show 2 * z * (x + 1) ≤ L; rw [hp]; exact hle, fun c hc => ?_, fun c hc hcL => ?_⟩, hx1⟩
    · by_cases e : c = x
      · subst e; exact sd3
      · have hc' : c < x := by simp only at hc; omega
        have := Nat.mul_le_mul_left (2 * z) (show c + 1 ≤ x by omega)
        rw [hp] at this
        exact (hs c hc').out m3 (.inl this)
    · simp only at hc
      have h4 := Nat.mul_le_mul_left z hc
      rw [hp2, hp] at h4
      exact (hr c (by omega) hcL).out m3 (.inr h4)
  clear hrun h1 f1 m1
  rintro ⟨d2, x⟩ w2 ⟨h2, f2, m2, hx, hx', hs, hr⟩
  simp only at h2 f2 m2 hx hx' hs hr ⊢
  refine FC.cut (σ := List Int) (fun x => [(0, .slice (some ⟨bd, 0, none⟩) L cap), (1, .int .i64 L), (2, cmpV cs), (6, .int .i64 z)]) (fun d3 w2 => On w2 B g0 s V cs bd n cap L d3 ∧ FrB bd w w2 ∧ Mix 0 L d d3 ∧ Runs (ofv s) (2 * z) d3 0 L) ?_ ?_
  · refine FC.seq (FC.region ?_)
    refine mv_ rfl rfl rfl ?_
    refine mv_ rfl rfl rfl ?_
    refine FL.pur rfl rfl (p_add rfl rfl ((wr (by omega) (by omega)).trans (show ((2 * z * x : Nat) : Int) + z = ((2 * z * x + z : Nat) : Int) by omega))) ?_
    refine sg_ rfl rfl rfl ?_
    refine FL.nilK ?_
    refine FC.seq (FC.region ?_)
    refine mv_ rfl rfl rfl ?_
    refine mv_ rfl rfl rfl ?_
    refine FL.pur rfl rfl (p_lss rfl rfl rfl) ?_
    refine FL.nilK ?_
    have fin : ∀ d3, Mix (2 * z * x) L d2 d3 → Sd (ofv s) d3 (2 * z * x) L → Mix 0 L d d3 ∧ Runs (ofv s) (2 * z) d3 0 L := fun d3 m3 sd3 => by
      refine ⟨m2.trans (m3.wide (Nat.zero_le _) (Nat.le_refl _)), fun c _ hc => ?_⟩
      by_cases e : c = x
      · subst e; rw [Nat.min_eq_right (by omega)]; exact sd3
      · have hc' : c < x := by
          apply Nat.lt_of_not_le
          intro hx2
          have := Nat.mul_le_mul_left (2 * z) (show x + 1 ≤ c by omega)
          rw [hp] at this
          omega
        have := Nat.mul_le_mul_left (2 * z) (show c + 1 ≤ x by omega)
        rw [hp] at this
        rw [Nat.min_eq_left (by omega)]
        exact (hs c hc').out m3 (.inl this)
    refine FC.cond (decide (((2 * z * x + z : Nat) : Int) < (L : Int))) rfl (fun hc => ?_) (fun hc => FC.skip ?_)
    · have hlt : 2 * z * x + z < L := by have := of_decide_eq_true hc; omega
      have r1 := hr (2 * x) (Nat.le_refl _) (by rw [hp2]; omega)
      rw [hp2, Nat.min_eq_left (by omega)] at r1
      have r2 := hr (2 * x + 1) (by omega) (by rw [hp3]; omega)
      rw [hp3, Nat.min_eq_right (by omega)] at r2
      refine FC.region ?_
      refine mv_ rfl rfl rfl ?_
      refine mv_ rfl rfl rfl ?_
      refine mv_ rfl rfl rfl ?_
      refine mv_ rfl rfl rfl ?_
      refine mv_ rfl rfl rfl ?_
      refine FL.call rfl rfl (p_call Try.func58 rfl rfl rfl) (symMerge_calls (by omega) _ h2 (2 * z * x) (2 * z * x + z) L (by omega) (by omega) (Nat.le_refl _) (Nat.le_refl _) r1 r2) ?_
      rintro e_ w_ ⟨rfl, d3, m3, sd3, h3, f3⟩
      refine ⟨_, rfl, ?_⟩
      refine FL.nil ?_
      obtain ⟨y1, y2⟩ := fin d3 m3 sd3
      exact ⟨d3, ⟨rfl, rfl, rfl, rfl, trivial⟩, h3, f2.trans' f3, y1, y2⟩
    · have hlt : ¬ 2 * z * x + z < L := by have := of_decide_eq_false hc; omega
      have r1 : Sd (ofv s) d2 (2 * z * x) L := by
        by_cases h0 : 2 * z * x < L
        · have r1 := hr (2 * x) (Nat.le_refl _) (by rw [hp2]; omega)
          rwa [hp2, Nat.min_eq_right (by omega)] at r1
        · exact fun i j h1 h2 h3 => absurd h3 (by omega)
      obtain ⟨y1, y2⟩ := fin d2 (.refl _ _ _) r1
      exact ⟨d2, ⟨rfl, rfl, rfl, rfl, trivial⟩, h2, f2, y1, y2⟩
  · rintro d3 w3 ⟨h3, f3, m3, r3⟩
    refine FC.region ?_
    refine mv_ rfl rfl rfl ?_
    refine FL.pur rfl rfl (p_mul rfl rfl ((wr (by omega) (by omega)).trans (show (z : Int) * 2 = ((2 * z : Nat) : Int) by omega))) ?_
    refine sg_ rfl rfl rfl ?_
    refine FL.nil ?_
    exact blk_normal ⟨(d3, 2 * z), ⟨rfl, rfl, rfl, rfl, trivial⟩, ⟨h3, f3, m3, by show 0 < 2 * z; omega, by show 2 * z < 2305843009213693952; omega, r3⟩, by show L - 2 * z < L - z; omega⟩

theorem sort_calls (hcap : L < 1152921504606846976) (hn : n < 1099511627776) {w : World} {d : List Int} (h : On w B g0 s V cs bd n cap L d) :
    Calls Try.prog 34 #[.slice (some ⟨bd, 0, none⟩) L cap, cmpV cs] w fun e w' => e = .returned (.tuple #[]) ∧ ∃ d', Mix 0 L d d' ∧ Sd (ofv s) d' 0 L ∧ On w' B g0 s V cs bd n cap L d' ∧ FrB bd w w' := by
  refine calls_of_FC (N := 9) (vs := [.slice (some ⟨bd, 0, none⟩) L cap, cmpV cs]) Try.func34 rfl Try.ntmps34 (Nat.le_of_ble_eq_true rfl) ?_
  refine FC.region ?_
  refine mv_ rfl rfl rfl ?_
  refine mv_ rfl rfl rfl ?_
  refine FL.pur rfl rfl (p_len rfl Try.underlying41) ?_
  refine mv_ rfl rfl rfl ?_
  refine FL.call rfl rfl (p_call Try.func45 rfl rfl rfl) (stable_calls hcap hn h) ?_
  rintro e_ w_ ⟨rfl, d', m1, s1, h1, f1⟩
  refine ⟨_, rfl, ?_⟩
  refine FL.nil ?_
  exact end0 Try.results34 ⟨rfl, d', m1, s1, h1, f1⟩
theorem sortNil_calls (w : World) (c : Nat) (A : Option Addr) : Calls Try.prog 34 #[.slice A 0 c, cmpV cs] w fun e w' => e = .returned (.tuple #[]) ∧ w = w' := by
  have h57 : Calls Try.prog 57 #[.slice A 0 c, .int .i64 0, .int .i64 0, cmpV cs] w fun e w' => e = .returned (.tuple #[]) ∧ w = w' := by
    refine calls_of_FC (N := 53) (vs := [.slice A 0 c, .int .i64 0, .int .i64 0, cmpV cs]) Try.func57 rfl Try.ntmps57 (Nat.le_of_ble_eq_true rfl) ?_
    refine FC.seq (FC.region ?_)
    refine mv_ rfl rfl rfl ?_
    refine FL.pur rfl rfl (p_add rfl rfl (wr (by omega) (by omega))) ?_
    refine sg_ rfl rfl rfl ?_
    refine FL.nilK ?_
    refine FC.block ?_
    refine FC.loop (σ := Unit) (fun _ => [(2, .int .i64 0), (8, .int .i64 1)]) (fun _ w2 => w = w2) (fun _ => 0) () rfl ⟨rfl, rfl, trivial⟩ ?_
    rintro - w1 rfl
    refine FC.seq ?_
    refine FC.seq (FC.region ?_)
    refine mv_ rfl rfl rfl ?_
    refine mv_ rfl rfl rfl ?_
    refine FL.pur rfl rfl (p_lss rfl rfl (decide_eq_false (by omega))) ?_
    refine FL.nilK ?_
    refine FC.cond_f rfl (FC.exit ?_)
    exact thn_exit (thn_exit (blk_exit (end0 Try.results57 ⟨rfl, rfl⟩)))
  have h45 : Calls Try.prog 45 #[.slice A 0 c, .int .i64 0, cmpV cs] w fun e w' => e = .returned (.tuple #[]) ∧ w = w' := by
    refine calls_of_FC (N := 63) (vs := [.slice A 0 c, .int .i64 0, cmpV cs]) Try.func45 rfl Try.ntmps45 (Nat.le_of_ble_eq_true rfl) ?_
    refine FC.seq (FC.region ?_)
    refine sg_ rfl rfl rfl ?_
    refine FL.nilK ?_
    refine FC.seq (FC.region ?_)
    refine mv_ rfl rfl rfl ?_
    refine sg_ rfl rfl rfl ?_
    refine sg_ rfl rfl rfl ?_
    refine FL.nilK ?_
    refine FC.cut (σ := Unit) (fun x => [(0, .slice A 0 c), (1, .int .i64 0), (2, cmpV cs), (6, .int .i64 20), (7, .int .i64 0)]) (fun x w2 => w = w2) ?_ ?_
    · refine FC.block ?_
      refine FC.loop (σ := Unit) (fun _ => [(0, .slice A 0 c), (1, .int .i64 0), (2, cmpV cs), (6, .int .i64 20), (7, .int .i64 0), (8, .int .i64 20)]) (fun _ w2 => w = w2) (fun _ => 0) () rfl ⟨rfl, rfl, rfl, rfl, rfl, rfl, trivial⟩ ?_
      rintro - w1 rfl
      refine FC.seq ?_
      refine FC.seq (FC.region ?_)
      refine mv_ rfl rfl rfl ?_
      refine mv_ rfl rfl rfl ?_
      refine FL.pur rfl rfl (p_leq rfl rfl (decide_eq_false (by omega))) ?_
      refine FL.nilK ?_
      refine FC.cond_f rfl (FC.exit ?_)
      exact thn_exit (thn_exit (blk_exit ⟨(), ⟨rfl, rfl, rfl, rfl, rfl, trivial⟩, rfl⟩))
    rintro - w1 rfl
    refine FC.seq (FC.region ?_)
    refine mv_ rfl rfl rfl ?_
    refine mv_ rfl rfl rfl ?_
    refine mv_ rfl rfl rfl ?_
    refine mv_ rfl rfl rfl ?_
    refine FL.call rfl rfl (p_call Try.func57 rfl rfl rfl) (h57) ?_
    rintro e_ w_ ⟨rfl, rfl⟩
    refine ⟨_, rfl, ?_⟩
    refine FL.nilK ?_
    refine FC.block ?_
    refine FC.loop (σ := Unit) (fun _ => [(1, .int .i64 0), (6, .int .i64 20)]) (fun _ w2 => w = w2) (fun _ => 0) () rfl ⟨rfl, rfl, trivial⟩ ?_
    rintro - w1 rfl
    refine FC.seq ?_
    refine FC.seq (FC.region ?_)
    refine mv_ rfl rfl rfl ?_
    refine mv_ rfl rfl rfl ?_
    refine FL.pur rfl rfl (p_lss rfl rfl (decide_eq_false (by omega))) ?_
    refine FL.nilK ?_
    refine FC.cond_f rfl (FC.exit ?_)
    exact thn_exit (thn_exit (blk_exit (end0 Try.results45 ⟨rfl, rfl⟩)))
  refine calls_of_FC (N := 9) (vs := [.slice A 0 c, cmpV cs]) Try.func34 rfl Try.ntmps34 (Nat.le_of_ble_eq_true rfl) ?_
  refine FC.region ?_
  refine mv_ rfl rfl rfl ?_
  refine mv_ rfl rfl rfl ?_
  refine FL.pur rfl rfl (p_len rfl Try.underlying41) ?_
  refine mv_ rfl rfl rfl ?_
  refine FL.call rfl rfl (p_call Try.func45 rfl rfl rfl) (h45) ?_
  rintro e_ w_ ⟨rfl, rfl⟩
  refine ⟨_, rfl, ?_⟩
  refine FL.nil ?_
  exact end0 Try.results34 ⟨rfl, rfl⟩
end
end Go.Proofs.Ytcahhbcehnbdkaa.Sv

/- A map of whole numbers as a set; rows that are only read. -/
namespace Go.Proofs.Ytcahhbcehnbdkaa.Sv
open Go.RowKit Go.Proofs.YtcahhbcehnbdkaaW.PrintWords Go.Proofs.YtcahhbcehnbdkaaW.PrintLast Go.Proofs.Ytcahhbcehnbdkaa.Eng Go.MapKept

/-- Block b is a map that holds true for exactly the numbers of d. -/
def MapIs (w : World) (b : Nat) (d : List Int) : Prop :=
  ∃ es clock, w.heap[b]? = some (.map es clock) ∧ (∀ e ∈ es.toList, ∃ x, e.key = .int .i64 x ∧ e.val = .bool true ∧ x ∈ d) ∧ ∀ x ∈ d, ∃ e ∈ es.toList, e.key = .int .i64 x
theorem MapIs.fr {w w' : World} {b : Nat} {d : List Int} {F : Nat → Prop} (h : MapIs w b d) (hf : Fr F w w') (hb : ¬ F b) : MapIs w' b d := by
  obtain ⟨es, c, h1, h2, h3⟩ := h
  exact ⟨es, c, (hf.block b (Array.getElem?_eq_some_iff.1 h1).1 hb).trans h1, h2, h3⟩
theorem MapIs.lt {w : World} {b : Nat} {d : List Int} (h : MapIs w b d) : b < w.heap.size := by
  obtain ⟨es, c, h1, _⟩ := h
  exact (Array.getElem?_eq_some_iff.1 h1).1
theorem mapIs_new (w : World) : MapIs (w.alloc (.map #[] 0)) w.heap.size [] := ⟨#[], 0, (heap_alloc w _).1, by simp, by simp⟩

section
variable {P : Program} {ρ : Env} {dst : Option Tmp} {ty : TypeId} {pos : String} {af : Array Edge} {gd : Option (Nat × Bool)} {x y z : Operand} {t k e : TypeId} {w : World} {b : Nat} {d : List Int}
theorem zero_bool (hi : ∃ i, P.info? e = some i ∧ i.zero = some (.bool false)) : (zeroValue e).run P w = .ok (.bool false) w := by
  obtain ⟨i, h1, h2⟩ := hi
  simp [zeroValue, typeInfo, h1, h2]
theorem keyI (n : Int) : IsKey (.int .i64) (.int .i64 n) := rfl
theorem p_has (hx : ev ρ x = some (.map (some b))) {n : Int} (hy : ev ρ y = some (.int .i64 n)) (hu : P.underlying t = some (.map k e)) (hk : P.underlying k = some (.int .i64)) (hi : ∃ i, P.info? e = some i ∧ i.zero = some (.bool false)) (hm : MapIs w b d) :
    Val P ρ ⟨dst, .lookup t x y false, ty, pos, af, gd⟩ w (.bool (decide (n ∈ d))) w := fun a ha => by
  obtain ⟨es, clock, hb, h1, h2⟩ := hm
  have hks : ∀ x ∈ es.toList, IsKey (.int .i64) x.key := fun e he => by
    obtain ⟨x, e1, _⟩ := h1 e he
    rw [e1]; rfl
  rcases findNow_spec (keyI n) es.toList 0 hks with ⟨f1, f2⟩ | ⟨j, e', f1, f2, f3⟩
  · have hn : n ∉ d := fun hn => by
      obtain ⟨e', he, hk'⟩ := h2 n hn
      exact f2 e' he hk'
    simp [execOp, ha.ev hx, ha.ev hy, Instr.lookup, run_underlying hu, MapKept.run_getObj_map hb, run_checkKey hk (keyI n), run_findKey hk f1, zero_bool hi, Result.andThen, hn]
  · obtain ⟨x', e1, e2, e3⟩ := h1 e' (List.mem_of_getElem? f2)
    rw [f3] at e1
    injection e1 with _ e1
    subst e1
    simp [execOp, ha.ev hx, ha.ev hy, Instr.lookup, run_underlying hu, MapKept.run_getObj_map hb, run_checkKey hk (keyI n), run_findKey hk f1, e2, Result.andThen, e3]
theorem p_put (hx : ev ρ x = some (.map (some b))) {n : Int} (hy : ev ρ y = some (.int .i64 n)) (hz : ev ρ z = some (.bool true)) (hu : P.underlying t = some (.map k e)) (hk : P.underlying k = some (.int .i64)) (hm : MapIs w b d) {d' : List Int} (hd : ∀ m, m ∈ d' ↔ m = n ∨ m ∈ d) :
    ∃ w', Sto P ρ ⟨none, .mapUpdate t x y z, ty, pos, af, gd⟩ w w' ∧ MapIs w' b d' ∧ Fr (fun i => i = b) w w' := by
  obtain ⟨es, clock, hb, h1, h2⟩ := hm
  have hks : ∀ x ∈ es.toList, IsKey (.int .i64) x.key := fun e he => by
    obtain ⟨x, e1, _⟩ := h1 e he
    rw [e1]; rfl
  have hfr : ∀ o, Fr (fun i => i = b) w { w with heap := w.heap.setIfInBounds b o } := fun o => ⟨rfl, rfl, rfl, by simp, fun i _ hi => (heap_set hb).2 i hi⟩
  rcases findNow_spec (keyI n) es.toList 0 hks with ⟨f1, f2⟩ | ⟨j, e', f1, f2, f3⟩
  · refine ⟨{ w with heap := w.heap.setIfInBounds b (.map (es.push { key := .int .i64 n, val := .bool true, born := clock }) (clock + 1)) }, fun a ha => ?_, ⟨_, _, (heap_set hb).1, ?_, ?_⟩, hfr _⟩
    · simp [execOp, ha.ev hx, ha.ev hy, ha.ev hz, Instr.mapUpdate, run_underlying hu, MapKept.run_getObj_map hb, run_checkKey hk (keyI n), run_findKey hk f1, run_setObj_map _ hb, Result.andThen]
    · intro e he
      simp only [Array.toList_push, List.mem_append, List.mem_singleton] at he
      rcases he with he | rfl
      · obtain ⟨x, e1, e2, e3⟩ := h1 e he
        exact ⟨x, e1, e2, (hd x).2 (.inr e3)⟩
      · exact ⟨n, rfl, rfl, (hd n).2 (.inl rfl)⟩
    · intro m hm
      rcases (hd m).1 hm with rfl | hm
      · exact ⟨{ key := .int .i64 m, val := .bool true, born := clock }, by simp, rfl⟩
      · obtain ⟨e, he, hk'⟩ := h2 m hm
        exact ⟨e, by simp [he], hk'⟩
  · have hj : es[j]? = some e' := by simpa using f2
    have hkey : ∀ i : Nat, ∀ u : MapEntry, (es.modify j fun e => { e with key := .int .i64 n, val := .bool true })[i]? = some u → u.key = .int .i64 n ∧ u.val = .bool true ∨ es[i]? = some u := fun i u hu' => by
      rw [Array.getElem?_modify] at hu'
      split at hu'
      · cases hq : es[i]? with
        | none => rw [hq] at hu'; simp at hu'
        | some q => rw [hq] at hu'; simp only [Option.map_some, Option.some.injEq] at hu'; subst hu'; exact .inl ⟨rfl, rfl⟩
      · exact .inr hu'
    refine ⟨{ w with heap := w.heap.setIfInBounds b (.map (es.modify j fun e => { e with key := .int .i64 n, val := .bool true }) clock) }, fun a ha => ?_, ⟨_, _, (heap_set hb).1, ?_, ?_⟩, hfr _⟩
    · simp [execOp, ha.ev hx, ha.ev hy, ha.ev hz, Instr.mapUpdate, run_underlying hu, MapKept.run_getObj_map hb, run_checkKey hk (keyI n), run_findKey hk f1, hj, f3, run_keyThatStays (keyI n), run_setObj_map _ hb, Result.andThen]
    · intro e he
      obtain ⟨i, hi⟩ := Array.mem_iff_getElem?.1 (Array.mem_toList_iff.1 he)
      rcases hkey i e hi with ⟨e1, e2⟩ | e1
      · exact ⟨n, e1, e2, (hd n).2 (.inl rfl)⟩
      · obtain ⟨x, x1, x2, x3⟩ := h1 e (Array.mem_toList_iff.2 (Array.mem_of_getElem? e1))
        exact ⟨x, x1, x2, (hd x).2 (.inr x3)⟩
    · intro m hm
      have hall : ∀ u ∈ es.toList, ∃ u' ∈ (es.modify j fun e => { e with key := .int .i64 n, val := .bool true }).toList, u'.key = u.key := fun u hu' => by
        obtain ⟨i, hi⟩ := Array.mem_iff_getElem?.1 (Array.mem_toList_iff.1 hu')
        have h0 : (es.modify j fun e => { e with key := .int .i64 n, val := .bool true })[i]? = some (if j = i then { u with key := .int .i64 n, val := .bool true } else u) := by
          rw [Array.getElem?_modify]
          split
          · rw [hi]; rfl
          · exact hi
        refine ⟨_, Array.mem_toList_iff.2 (Array.mem_of_getElem? h0), ?_⟩
        split
        · rename_i hji
          subst hji
          rw [hj] at hi
          injection hi with hi
          subst hi
          exact f3.symm
        · rfl
      rcases (hd m).1 hm with rfl | hm
      · obtain ⟨u, hu1, hu2⟩ := hall e' (List.mem_of_getElem? f2)
        exact ⟨u, hu1, hu2.trans f3⟩
      · obtain ⟨e, he, hk'⟩ := h2 m hm
        obtain ⟨u, hu1, hu2⟩ := hall e he
        exact ⟨u, hu1, hu2.trans hk'⟩

/-- The address of an element of one cell, wherever the row begins. -/
theorem p_indexA {q : IntKind} {n c : Nat} {i : Int} {ad : Addr} {inf : TypeInfo} (hx : ev ρ x = some (.slice (some ad) n c)) (hy : ev ρ y = some (.int q i)) (hu : P.underlying t = some (.slice e)) (hi : P.info? e = some inf) (hs : (inf.size == 1) = true)
    (h0 : 0 ≤ i) (h1 : i < n) : Pur P ρ ⟨dst, .indexAddr t x y, ty, pos, af, gd⟩ (.pointer (some (ad.add i.toNat))) := fun w a ha => by
  have hs' : inf.size = 1 := by simpa using hs
  simp [execOp, Instr.indexAt, asIntOf, run_underlying hu, ha.ev hx, ha.ev hy, h0, h1, sizeOf, typeInfo, hi, hs']
end

/-- A row of numbers that is only read; its block lies below B. -/
def Row (w : World) (B : Nat) (v : Value) (d : List Int) : Prop :=
  ∃ A cap, v = .slice A d.length cap ∧ ∀ i, i < d.length → ∃ ad, A = some ad ∧ ad.block < B ∧ w.cell? (ad.add i) = some (.int .i64 (g d i))
theorem add_block (ad : Addr) (i : Nat) : (ad.add i).block = ad.block := by
  unfold Addr.add
  split <;> rfl
theorem Row.fr {w w' : World} {B : Nat} {v : Value} {d : List Int} {F : Nat → Prop} (h : Row w B v d) (hf : Fr F w w') (hb : ∀ k, k < B → ¬ F k) : Row w' B v d := by
  obtain ⟨A, cap, rfl, h1⟩ := h
  refine ⟨A, cap, rfl, fun i hi => ?_⟩
  obtain ⟨ad, e1, e2, e3⟩ := h1 i hi
  exact ⟨ad, e1, e2, hf.cell e3 (by rw [add_block]; exact hb _ e2)⟩
theorem Row.mono {w : World} {B B' : Nat} {v : Value} {d : List Int} (h : Row w B v d) (hB : B ≤ B') : Row w B' v d := by
  obtain ⟨A, cap, rfl, h1⟩ := h
  refine ⟨A, cap, rfl, fun i hi => ?_⟩
  obtain ⟨ad, e1, e2, e3⟩ := h1 i hi
  exact ⟨ad, e1, by omega, e3⟩
/-- The same, where an element is at hand. -/
theorem Row.at {w : World} {B : Nat} {v : Value} {d : List Int} (h : Row w B v d) : ∃ A cap, v = .slice A d.length cap ∧ ∀ i, i < d.length → ∃ ad, A = some ad ∧ ad.block < B ∧ w.cell? (ad.add i) = some (.int .i64 (g d i)) := h
end Go.Proofs.Ytcahhbcehnbdkaa.Sv

/- Walk of clean: a clause without repetitions. -/
namespace Go.Proofs.Ytcahhbcehnbdkaa.Sv
open Go.RowKit Go.Proofs.YtcahhbcehnbdkaaW.PrintWords Go.Proofs.YtcahhbcehnbdkaaW.PrintLast Go.Proofs.Ytcahhbcehnbdkaa.Eng

def cleanL : List Int → List Int → Option (List Int)
  | [], out => some out
  | l :: r, out => if -l ∈ out then none else cleanL r (if l ∈ out then out else out ++ [l])
theorem ownsRow_base {w : World} {B B' : Nat} {e : TypeId} {size n : Nat} {v : Value} {xs : List Value} (h : w.ownsRow B e size v n xs) (hb : B' ≤ B) : w.ownsRow B' e size v n xs := by
  refine ⟨h.1, ?_⟩
  rcases h.2 with h0 | ⟨q, cap, cur, h1, h2, h3⟩
  · exact .inl h0
  · exact .inr ⟨q, cap, cur, h1, Nat.le_trans hb h2, h3⟩
section
variable {ρ : Env} {dst : Option Tmp} {tp : TypeId} {pos : String} {af : Array Edge} {gd : Option (Nat × Bool)} {x y : Operand}
theorem own_app {w : World} {B : Nat} {v : Value} {d : List Int} (h : w.ownsRow B 3 1 v d.length (nums .i64 d)) (hlen : d.length < 1099511627776) (i : Int) (hB : B ≤ w.heap.size) (hx : ev ρ x = some v) (hy : ev ρ y = some (.slice (some ⟨w.heap.size, 0, none⟩) 1 1)) :
    ∃ v1 w1, Val Try.prog ρ ⟨dst, .call { callee := .builtin .append, args := #[x, y], argTypes := #[41, 41] }, tp, pos, af, gd⟩ (w.alloc (.cells #[.int .i64 i] 3)) v1 w1 ∧ w1.ownsRow B 3 1 v1 (d ++ [i]).length (nums .i64 (d ++ [i])) ∧ Fr (fun k => v.ownBlock = some k) w w1 := by
  have hB : B ≤ (w.alloc (.cells #[.int .i64 i] 3)).heap.size := by simp; omega
  have hown := h.alloc (.cells #[.int .i64 i] 3)
  obtain ⟨v1, w1, h1, h2, h3, h4⟩ := app41 (ρ := ρ) (dst := dst) (ty := tp) (pos := pos) (af := af) (g := gd) hx hy hown (news := [.int .i64 i]) rfl (news1 w _ _) (by simp [Value.oneCell']) (by omega) hB
  exact ⟨v1, w1, h1, by simpa [nums] using h2, ((Fr.refl _ w).alloc _).grown h3 (fun k hk => .inl hk)⟩
end
theorem FL.stoE {P : Program} {N : Nat} {ops : Array Oper} {Q : Exit → Env → World → Prop} {rest : List Oper} {ρ : Env} {w : World} {op : Op} {ty : TypeId} {pos : String} {af : Array Edge} {gd : Option (Nat × Bool)} (R : World → Prop) (hw : wantB ops ρ gd = some true)
    (hp : ∃ w', Sto P ρ ⟨none, op, ty, pos, af, gd⟩ w w' ∧ R w') (h : ∀ w', R w' → FL P N ops Q rest ρ w') : FL P N ops Q (⟨none, op, ty, pos, af, gd⟩ :: rest) ρ w := by
  obtain ⟨w', h1, h2⟩ := hp
  exact FL.sto w' hw h1 (h w' h2)
theorem own_app' {ρ : Env} {dst : Option Tmp} {tp : TypeId} {pos : String} {af : Array Edge} {gd : Option (Nat × Bool)} {x y : Operand} {w : World} {B : Nat} {v : Value} {d : List Int} (h : w.ownsRow B 3 1 v d.length (nums .i64 d)) (hlen : d.length < 1099511627776) (i : Int) (hB : B ≤ w.heap.size) (hx : ev ρ x = some v) (hy : ev ρ y = some (.slice (some ⟨w.heap.size, 0, none⟩) 1 1)) :
    ∃ v1 w1, Val Try.prog ρ ⟨dst, .call { callee := .builtin .append, args := #[x, y], argTypes := #[41, 41] }, tp, pos, af, gd⟩ (w.alloc (.cells #[.int .i64 i] 3)) v1 w1 ∧ w1.ownsRow B 3 1 v1 (d ++ [i]).length (nums .i64 (d ++ [i])) ∧ Fr (fun k => B ≤ k) w w1 := by
  obtain ⟨v2, w2, x1, x2, x3⟩ := own_app (dst := dst) (tp := tp) (pos := pos) (af := af) (gd := gd) h hlen i hB hx hy
  exact ⟨v2, w2, x1, x2, x3.mono fun k hk => .inl (h.lt k hk).1⟩
theorem bool_zero4 : ∃ i, Try.prog.info? 4 = some i ∧ i.zero = some (.bool false) := ⟨inf4, inf4_eq, inf4_zero⟩

theorem drop_g (d : List Int) (i : Nat) (h : i < d.length) : d.drop i = g d i :: d.drop (i + 1) := by
  rw [List.drop_eq_getElem_cons h]
  congr 1
  simp [g, List.getD_eq_getElem?_getD, h]

theorem clean_calls {w : World} {B n : Nat} {v : Value} {d : List Int} (hr : Row w B v d) (hlit : ∀ l ∈ d, Lit n l) (hn : n < 1099511627776) (hlen : d.length < 1099511627776) (hB : B ≤ w.heap.size) :
    Calls Try.prog 32 #[v] w fun e w' => Fr (fun _ => False) w w' ∧ ((cleanL d [] = none ∧ e = .returned (.tuple #[.slice none 0 0, .bool false])) ∨ ∃ c v', cleanL d [] = some c ∧ e = .returned (.tuple #[v', .bool true]) ∧ w'.ownsRow w.heap.size 3 1 v' c.length (nums .i64 c)) := by
  obtain ⟨A, cap, rfl, hcell⟩ := hr
  refine calls_of_FC (N := 31) (vs := [.slice A d.length cap]) Try.func32 rfl Try.ntmps32 (Nat.le_of_ble_eq_true rfl) ?_
  refine FC.seq (FC.region ?_)
  refine sg_ rfl rfl rfl ?_
  refine sg_ rfl rfl rfl ?_
  refine FL.nilK ?_
  refine FC.seq (FC.region ?_)
  refine FL.val _ _ rfl rfl p_map ?_
  refine sg_ rfl rfl rfl ?_
  refine FL.nilK ?_
  refine FC.seq (FC.region ?_)
  refine sg_ rfl rfl rfl ?_
  refine FL.nilK ?_
  refine FC.seq ?_
  refine FC.seq (FC.region ?_)
  refine mv_ rfl rfl rfl ?_
  refine FL.pur rfl rfl (p_len rfl Try.underlying41) ?_
  refine mv_ rfl rfl rfl ?_
  refine FL.nilK ?_
  have f0 : Fr (fun k => w.heap.size ≤ k) w (w.alloc (.map #[] 0)) := (Fr.refl _ _).alloc _
  refine FC.block ?_
  refine FC.loop (σ := Nat × List Int × Value) (fun x => [(0, .slice A d.length cap), (9, .slice A d.length cap), (10, .int .i64 d.length), (4, .map (some w.heap.size)), (5, x.2.2), (11, .int .i64 x.1)])
    (fun x w2 => x.1 ≤ d.length ∧ cleanL (d.drop x.1) x.2.1 = cleanL d [] ∧ Fr (fun k => w.heap.size ≤ k) w w2 ∧ MapIs w2 w.heap.size x.2.1 ∧ w2.ownsRow (w.heap.size + 1) 3 1 x.2.2 x.2.1.length (nums .i64 x.2.1) ∧ x.2.1.length ≤ x.1)
    (fun x => d.length - x.1) (0, [], .slice none 0 0) ⟨Nat.zero_le _, rfl, f0, mapIs_new w, World.ownsRow_nil _ _ _ _, Nat.le_refl _⟩ ⟨rfl, rfl, rfl, rfl, rfl, rfl, trivial⟩ ?_
  rintro ⟨i, out, v1⟩ w1 ⟨hi, hres, f1, hm, ho, hl⟩
  simp only at hi hres f1 hm ho hl ⊢
  refine FC.seq (FC.region ?_)
  refine FL.pur rfl rfl (p_lss rfl rfl rfl) ?_
  refine FL.nilK ?_
  refine FC.seq ?_
  refine FC.cond (decide ((i : Int) < (d.length : Int))) rfl (fun hc => FC.skip (thn_normal ?_)) (fun hc => FC.exit ?_)
  rotate_left
  · have hge : ¬ (i : Int) < (d.length : Int) := of_decide_eq_false hc
    have e : d.drop i = [] := List.drop_eq_nil_iff.2 (by omega)
    rw [e] at hres
    refine thn_exit (thn_exit (blk_exit (thn_normal ?_)))
    refine FC.seq (FC.region ?_)
    refine mv_ rfl rfl rfl ?_
    refine sg_ rfl rfl rfl ?_
    refine sg_ rfl rfl rfl ?_
    refine FL.nilK ?_
    refine FC.ret ?_
    repeat with_reducible first | refine thn_ret ?_ | refine blk_ret ?_ | refine nog_ret ?_
    exact ret2 Try.results32 rfl rfl ⟨f1.mono fun k hk => .inr hk, .inr ⟨out, v1, hres.symm, rfl, ownsRow_base ho (by omega)⟩⟩
  have hlt : i < d.length := by have := of_decide_eq_true hc; omega
  obtain ⟨ad, rfl, hadB, hc0⟩ := hcell i hlt
  have hc1 : w1.cell? (ad.add i) = some (.int .i64 (g d i)) := f1.cell hc0 (by rw [add_block]; omega)
  obtain ⟨hx1, hx2⟩ := hlit (g d i) (rd_mem d i (by omega) (by omega))
  rw [drop_g d i hlt, show cleanL (g d i :: d.drop (i + 1)) out = (if -(g d i) ∈ out then none else cleanL (d.drop (i + 1)) (if g d i ∈ out then out else out ++ [g d i])) from rfl] at hres
  refine FC.seq ?_
  refine FC.block ?_
  refine FC.seq (FC.region ?_)
  refine FL.pur rfl rfl (p_indexA rfl rfl Try.underlying41 inf3_eq inf3_size (by omega) (by omega)) ?_
  refine FL.val _ _ rfl rfl (p_load rfl Try.underlying3 rfl hc1) ?_
  refine sg_ rfl rfl rfl ?_
  refine FL.nilK ?_
  refine FC.seq ?_
  refine FC.seq (FC.region ?_)
  refine mv_ rfl rfl rfl ?_
  refine mv_ rfl rfl rfl ?_
  refine FL.pur rfl rfl (p_neg rfl (wr (by omega) (by omega))) ?_
  refine FL.val _ _ rfl rfl (p_has rfl rfl Try.underlying68 Try.underlying3 bool_zero4 hm) ?_
  refine FL.nilK ?_
  refine FC.cond (decide (-(g d i) ∈ out)) rfl (fun hc => ?_) (fun hc => FC.skip (thn_normal ?_))
  · rw [if_pos (of_decide_eq_true hc)] at hres
    refine FC.seq (FC.region ?_)
    refine sg_ rfl rfl rfl ?_
    refine sg_ rfl rfl rfl ?_
    refine FL.nilK ?_
    refine FC.ret ?_
    repeat with_reducible first | refine thn_ret ?_ | refine blk_ret ?_ | refine nog_ret ?_
    exact ret2 Try.results32 rfl rfl ⟨f1.mono fun k hk => .inr hk, .inl ⟨hres.symm, rfl⟩⟩
  rw [if_neg (of_decide_eq_false hc)] at hres
  refine FC.cut (σ := Value) (fun x => [(0, .slice (some ad) d.length cap), (9, .slice (some ad) d.length cap), (10, .int .i64 d.length), (4, .map (some w.heap.size)), (5, x), (7, .int .i64 (g d i)), (11, .int .i64 i)])
    (fun x w2 => Fr (fun k => w.heap.size ≤ k) w w2 ∧ MapIs w2 w.heap.size out ∧ w2.ownsRow (w.heap.size + 1) 3 1 x (if g d i ∈ out then out else out ++ [g d i]).length (nums .i64 (if g d i ∈ out then out else out ++ [g d i]))) ?_ ?_
  · refine FC.seq (FC.region ?_)
    refine mv_ rfl rfl rfl ?_
    refine mv_ rfl rfl rfl ?_
    refine FL.val _ _ rfl rfl (p_has rfl rfl Try.underlying68 Try.underlying3 bool_zero4 hm) ?_
    refine FL.pur rfl rfl (p_not rfl) ?_
    refine FL.nilK ?_
    refine FC.cond (!decide (g d i ∈ out)) rfl (fun hc => ?_) (fun hc => FC.skip ?_)
    · have hn' : g d i ∉ out := by simpa using hc
      simp only [if_neg hn']
      have hsz := hm.lt
      refine FC.region ?_
      refine mv_ rfl rfl rfl ?_
      refine mv_ rfl rfl rfl ?_
      refine FL.val _ _ rfl rfl (bld41 rfl rfl) ?_
      refine FL.valG (fun v1 w2 => w2.ownsRow (w.heap.size + 1) 3 1 v1 (out ++ [g d i]).length (nums .i64 (out ++ [g d i])) ∧ Fr (fun k => w.heap.size + 1 ≤ k) w1 w2) rfl rfl (own_app' ho (by omega) (g d i) (by omega) rfl rfl) ?_
      rintro v2 w2 ⟨x2, x3⟩
      refine sg_ rfl rfl rfl ?_
      refine FL.nil ?_
      exact ⟨v2, ⟨rfl, rfl, rfl, rfl, rfl, rfl, rfl, trivial⟩, f1.trans x3 fun k hk => .inl (by omega), hm.fr x3 (by omega), x2⟩
    · have hn' : g d i ∈ out := by simpa using hc
      simp only [if_pos hn']
      exact ⟨v1, ⟨rfl, rfl, rfl, rfl, rfl, rfl, rfl, trivial⟩, f1, hm, ho⟩
  rintro v2 w2 ⟨f2, hm2, ho2⟩
  have hput : ∀ m, m ∈ (if g d i ∈ out then out else out ++ [g d i]) ↔ m = g d i ∨ m ∈ out := fun m => by
    split
    · rename_i hin
      exact ⟨.inr, fun h => h.elim (fun e => e ▸ hin) id⟩
    · simp only [List.mem_append, List.mem_singleton]
      exact ⟨fun h => h.elim .inr .inl, fun h => h.elim .inr .inl⟩
  refine FC.region ?_
  refine mv_ rfl rfl rfl ?_
  refine mv_ rfl rfl rfl ?_
  refine FL.stoE _ rfl (p_put rfl rfl rfl Try.underlying68 Try.underlying3 hm2 hput) ?_
  rintro w3 ⟨x2, x3⟩
  refine FL.nil ?_
  refine blk_normal (thn_normal ?_)
  refine FC.region ?_
  refine FL.pur rfl rfl (p_add rfl rfl ((wr (by omega) (by omega)).trans (show (i : Int) + 1 = ((i + 1 : Nat) : Int) by omega))) ?_
  refine mv_ rfl rfl rfl ?_
  refine FL.nil ?_
  have hl2 : (if g d i ∈ out then out else out ++ [g d i]).length ≤ i + 1 := by
    split
    · omega
    · simp; omega
  refine ⟨(i + 1, _, v2), ⟨rfl, rfl, rfl, rfl, rfl, rfl, trivial⟩, ⟨hlt, hres, f2.trans x3 fun k hk => .inl (by omega), x2, ?_, hl2⟩, by show d.length - (i + 1) < d.length - i; omega⟩
  exact ownsRow_same ho2 fun k hk => x3.block k (ho2.lt k hk).2 (by have := (ho2.lt k hk).1; omega)
end Go.Proofs.Ytcahhbcehnbdkaa.Sv

/- New blocks that one region makes in any order. -/
namespace Go.Proofs.Ytcahhbcehnbdkaa.Sv
open Go.RowKit Go.Proofs.YtcahhbcehnbdkaaW.PrintWords Go.Proofs.YtcahhbcehnbdkaaW.PrintLast Go.Proofs.Ytcahhbcehnbdkaa.Eng

def subs : List Nat → List (List Nat)
  | [] => [[]]
  | x :: r => subs r ++ (subs r).map (x :: ·)
theorem mem_subs (p : Nat → Bool) : ∀ l : List Nat, l.filter p ∈ subs l
  | [] => List.mem_singleton.2 rfl
  | x :: r => by
    have := mem_subs p r
    unfold subs
    rw [List.filter_cons]
    split
    · exact List.mem_append.2 (.inr (List.mem_map.2 ⟨_, this, rfl⟩))
    · exact List.mem_append.2 (.inl this)
def lOf (l : Array Bool) (D : List Nat) : Array Bool := l.mapIdx fun j x => x || D.contains j
theorem lOf_congr {l : Array Bool} {D D' : List Nat} (h : ∀ i, i ∈ D ↔ i ∈ D') : lOf l D = lOf l D' := by
  have : (fun (j : Nat) (x : Bool) => x || D.contains j) = fun j x => x || D'.contains j := by
    funext j x
    congr 1
    rw [Bool.eq_iff_iff]
    simpa using h j
  unfold lOf
  rw [this]
theorem lOf_set (l : Array Bool) (D : List Nat) (i : Nat) : (lOf l D).setIfInBounds i true = lOf l (i :: D) := by
  apply Array.ext_getElem?
  intro j
  simp only [lOf, Array.getElem?_setIfInBounds, Array.getElem?_mapIdx, Array.size_mapIdx, List.contains_cons]
  by_cases e : i = j
  · subst e
    by_cases h : i < l.size
    · simp [h]
    · simp [h]
  · have : (j == i) = false := by simpa using fun e' : j = i => e e'.symm
    simp [e, this]
theorem lOf_nil (l : Array Bool) : lOf l [] = l := by
  apply Array.ext
  · simp [lOf]
  · intro j h1 h2; simp [lOf]
def manyB (ops : Array Oper) (l : Array Bool) (As : List Nat) : Bool := (subs As).all fun D => D == As || Region.ready .any ops (lOf l D) == As.filter fun i => !D.contains i
theorem count_out (i : Nat) (D : List Nat) (hD : i ∉ D) : ∀ As : List Nat, As.Nodup → i ∈ As → As.countP (fun j => !(i :: D).contains j) + 1 = As.countP (fun j => !D.contains j)
  | [], _, h => by cases h
  | x :: r, hn, h => by
    rw [List.nodup_cons] at hn
    have hcon : ∀ E : List Nat, ∀ j, (!E.contains j) = true ↔ j ∉ E := fun E j => by simp
    rcases List.mem_cons.1 h with rfl | h
    · rw [List.countP_cons_of_neg (by simp), List.countP_cons_of_pos (by simpa using hD)]
      congr 1
      apply List.countP_congr
      intro j hj
      rw [hcon, hcon, List.mem_cons, not_or]
      exact ⟨fun h => h.2, fun h => ⟨fun e => hn.1 (e ▸ hj), h⟩⟩
    · have ih := count_out i D hD r hn.2 h
      have hx : x ≠ i := fun e => hn.1 (e ▸ h)
      by_cases hxD : x ∈ D
      · rw [List.countP_cons_of_neg (by simp [hxD]), List.countP_cons_of_neg (by simp [hxD])]; exact ih
      · rw [List.countP_cons_of_pos (by simp [hx, hxD]), List.countP_cons_of_pos (by simp [hxD])]; omega

section
variable {P : Program} {N : Nat} {ops : Array Oper} {Q : Exit → Env → World → Prop} {S : World → Prop} {ds : List Nat} {fuel : Nat} {l : Array Bool} {ρ : Env} {w w' : World}
theorem FA.ready {rs : List Nat} (hr : Region.ready .any ops l = rs) (hne : rs ≠ []) (h : ∀ i ∈ rs, i ∉ ds ∧ ∃ d op ty pos af v w', ops[i]? = some ⟨some d, op, ty, pos, af, none⟩ ∧ Nat.blt d N = true ∧ Val P ρ ⟨some d, op, ty, pos, af, none⟩ w v w' ∧ S w' ∧ FA P N ops Q S ds fuel (l.setIfInBounds i true) ((d, v) :: ρ) w') : FA P N ops Q S ds (fuel + 1) l ρ w := fun a ha => by
  refine wpAnyLast_ready hr hne ?_
  have : ∀ rs' : List Nat, (∀ i ∈ rs', i ∈ rs) → AllReadyL P .any ops (lift N Q) S ds fuel l a w rs' := fun rs' => by
    induction rs' with
    | nil => exact fun _ => AllReadyL.nil
    | cons i r ih =>
      intro hsub
      obtain ⟨hds, d, op, ty, pos, af, v, w', h1, h2, h3, h4, h5⟩ := h i (hsub i (.head _))
      refine AllReadyL.cons h1 hds (fun K hK => ?_) (ih fun j hj => hsub j (.tail _ hj))
      rw [if_pos (wantB_spec ha.fit (show wantB ops ρ none = some true from rfl))]
      unfold Oper.wp
      rw [h3 a ha.fit]
      exact hK _ _ h4 fun _ => h5 _ (ha.put h2)
  exact this rs fun _ h => h

theorem FA.makes (As : List Nat) (l' : Array Bool) (dst : Nat → Nat) (obj : Nat → Obj) (val : Nat → Nat → Value) (E : Env) (hn : As.Nodup)
    (hop : ∀ i ∈ As, ∃ op ty pos af, ops[i]? = some ⟨some (dst i), op, ty, pos, af, none⟩ ∧ Nat.blt (dst i) N = true ∧ ∀ ρ', Sub E ρ' → ∀ w, Val P ρ' ⟨some (dst i), op, ty, pos, af, none⟩ w (val i w.heap.size) (w.alloc (obj i)))
    (hE : ∀ i ∈ As, ∀ ρ' v, Sub E ρ' → Sub E ((dst i, v) :: ρ')) (hdst : ∀ i ∈ As, ∀ j ∈ As, dst i = dst j → i = j) (hm : manyB ops l As = true) (hl' : lOf l As = l') (hds : ∀ i ∈ As, i ∉ ds) (hS : ∀ w, S w) (hρ : Sub E ρ)
    (h : ∀ (b : Nat → Nat) ρ' w', Sub E ρ' → (∀ i ∈ As, ρ'.get (dst i) = some (val i (b i)) ∧ w'.heap[b i]? = some (obj i) ∧ w.heap.size ≤ b i) → (∀ i ∈ As, ∀ j ∈ As, b i = b j → i = j) → Fr (fun _ => False) w w' → FA P N ops Q S ds fuel l' ρ' w') :
    FA P N ops Q S ds (fuel + As.length) l ρ w := by
  have key : ∀ (k : Nat) (D : List Nat) (b : Nat → Nat) (ρ' : Env) (w' : World), (∀ i ∈ D, i ∈ As) → As.countP (fun j => !D.contains j) = k → Sub E ρ' → (∀ i ∈ D, ρ'.get (dst i) = some (val i (b i)) ∧ w'.heap[b i]? = some (obj i) ∧ w.heap.size ≤ b i) →
      (∀ i ∈ D, ∀ j ∈ D, b i = b j → i = j) → Fr (fun _ => False) w w' → FA P N ops Q S ds (fuel + k) (lOf l D) ρ' w' := by
    intro k
    induction k with
    | zero =>
      intro D b ρ' w' hD hk hE' hb hbi hf
      have hall : ∀ i ∈ As, i ∈ D := fun i hi => by
        rw [List.countP_eq_zero] at hk
        simpa using hk i hi
      rw [lOf_congr (l := l) (D' := As) fun i => ⟨hD i, hall i⟩, hl']
      exact h b ρ' w' hE' (fun i hi => hb i (hall i hi)) (fun i hi j hj => hbi i (hall i hi) j (hall j hj)) hf
    | succ k ih =>
      intro D b ρ' w' hD hk hE' hb hbi hf
      have hr : Region.ready .any ops (lOf l D) = As.filter fun i => !D.contains i := by
        have h1 := List.all_eq_true.1 hm _ (mem_subs (fun i => D.contains i) As)
        have hno : (As.filter (fun i => D.contains i) == As) = false := by
          rw [Bool.eq_false_iff]
          intro e
          have e := List.filter_eq_self.1 (eq_of_beq e)
          have : As.countP (fun j => !D.contains j) = 0 := List.countP_eq_zero.2 fun j hj => by rw [e j hj]; decide
          omega
        rw [hno, Bool.false_or] at h1
        rw [lOf_congr (l := l) (D' := D) fun i => by simp only [List.mem_filter, List.contains_iff_mem]; exact ⟨fun h => h.2, fun h => ⟨hD i h, h⟩⟩] at h1
        rw [eq_of_beq h1]
        apply List.filter_congr
        intro j hj
        congr 1
        rw [Bool.eq_iff_iff]
        simp [hj]
      refine FA.ready (fuel := fuel + k) hr (fun e => ?_) fun i hi => ?_
      · rw [List.countP_eq_length_filter, e] at hk; simp at hk
      · rw [List.mem_filter] at hi
        obtain ⟨hiA, hiD⟩ := hi
        have hiD : i ∉ D := by simpa using hiD
        obtain ⟨op, ty, pos, af, h1, h2, h3⟩ := hop i hiA
        refine ⟨hds i hiA, dst i, op, ty, pos, af, _, _, h1, h2, h3 ρ' hE' w', hS _, ?_⟩
        rw [lOf_set]
        refine ih (i :: D) (fun j => if j = i then w'.heap.size else b j) _ _ ?_ ?_ (hE i hiA _ _ hE') ?_ ?_ (hf.alloc _)
        · intro j hj
          rcases List.mem_cons.1 hj with rfl | hj
          · exact hiA
          · exact hD j hj
        · have := count_out i D hiD As hn hiA
          omega
        · intro j hj
          by_cases e : j = i
          · subst e
            simp only [if_pos]
            refine ⟨by simp [Env.get], (heap_alloc_new w' _), hf.size⟩
          · have hjD : j ∈ D := by simpa [e] using hj
            obtain ⟨x1, x2, x3⟩ := hb j hjD
            simp only [if_neg e]
            refine ⟨?_, ?_, x3⟩
            · have hne : Nat.beq (dst i) (dst j) = false := by
                rw [Bool.eq_false_iff]
                intro e'
                exact e (hdst j (hD j hjD) i hiA (Nat.eq_of_beq_eq_true e').symm)
              simp only [Env.get, hne, cond_false]
              exact x1
            · exact (Below.heap_alloc w' _ _ (Array.getElem?_eq_some_iff.1 x2).1).trans x2
        · intro j hj j' hj'
          have hlt : ∀ j ∈ D, b j < w'.heap.size := fun j hj => (Array.getElem?_eq_some_iff.1 (hb j hj).2.1).1
          by_cases e : j = i <;> by_cases e' : j' = i
          · intro _; rw [e, e']
          · have hjD : j' ∈ D := by simpa [e'] using hj'
            have := hlt j' hjD
            simp only [if_pos e, if_neg e']
            omega
          · have hjD : j ∈ D := by simpa [e] using hj
            have := hlt j hjD
            simp only [if_neg e, if_pos e']
            omega
          · have h1 : j ∈ D := by simpa [e] using hj
            have h2 : j' ∈ D := by simpa [e'] using hj'
            simp only [if_neg e, if_neg e']
            exact hbi j h1 j' h2
  have := key As.length [] (fun _ => 0) ρ w (by simp) (by simp) hρ (by simp) (by simp) (Fr.refl _ _)
  rwa [lOf_nil] at this
end
end Go.Proofs.Ytcahhbcehnbdkaa.Sv

/- Walk of begin: a search without clauses. -/
namespace Go.Proofs.Ytcahhbcehnbdkaa.Sv
open Go.RowKit Go.Proofs.YtcahhbcehnbdkaaW.PrintWords Go.Proofs.YtcahhbcehnbdkaaW.PrintLast Go.Proofs.Ytcahhbcehnbdkaa.Eng

section
variable {P : Program} {N : Nat} {ops : Array Oper} {Q : Exit → Env → World → Prop} {S : World → Prop} {ds : List Nat} {fuel : Nat} {l : Array Bool} {ρ : Env} {w w' : World} {dst : Option Tmp} {ty : TypeId} {pos : String} {af : Array Edge} {gd : Option (Nat × Bool)} {x y : Operand} {t e : TypeId}
theorem FA.sub (ρ' : Env) (hs : Sub ρ' ρ) (h : FA P N ops Q S ds fuel l ρ' w) : FA P N ops Q S ds fuel l ρ w := fun a ha => h a (ha.sub hs)
theorem p_make {z : Value} {bytes n : Nat} {kl : IntKind} (hx : ev ρ x = some (.int kl n)) (ht : P.underlying t = some (.slice e)) (hinfo : (P.info? e).map (fun i => (i.zero, i.size, i.bytes)) = some (some z, 1, bytes)) (hz1 : z.cells = #[z])
    (hbytes : bytes * n ≤ 281474976710656) (h63 : n ≤ 9223372036854775807) : Val P ρ ⟨dst, .makeSlice t x x, ty, pos, af, gd⟩ w (.slice (some ⟨w.heap.size, 0, none⟩) n n) (w.alloc (.cells (madeCells #[z] n) e)) := fun a ha => by
  simp [execOp, ha.ev hx, run_make_row' t e z bytes ht hinfo hz1 kl kl n hbytes h63 w]
theorem p_build {parts : List (Nat × Operand)} {vs : List (Nat × Value)} {cells : Array Value} (hv : ∀ a, Fit a ρ → parts.map (fun p => (p.1, a.eval p.2)) = vs) (hb : P.built t vs = some cells) : Pur P ρ ⟨dst, .build t parts.toArray, ty, pos, af, gd⟩ (.agg cells) := fun w a ha => by
  have h1 := run_build (P := P) w t vs.toArray cells hb
  have h2 : (parts.toArray.map fun p => (p.1, a.eval p.2)) = vs.toArray := by rw [List.map_toArray, hv a ha]
  simp only [execOp]
  rw [show (parts.toArray.map fun (p : Nat × Operand) => match p with | (i, x) => (i, a.eval x)) = vs.toArray from h2]
  simp [h1]
theorem p_box {cells : Array Value} (hx : ev ρ x = some (.agg cells)) : Val P ρ ⟨dst, .box t x, ty, pos, af, gd⟩ w (.pointer (some ⟨w.heap.size, 0, none⟩)) (w.alloc (.cells cells t)) := fun a ha => by
  simp [execOp, Instr.box, newVar, newRow, newObj, ha.ev hx, Value.cells, Sem.run, World.alloc_eq]
end

def beginS (n : Nat) : S := ⟨n, [], List.replicate (2 * (n + 1)) [], List.replicate (n + 1) 0, List.replicate (n + 1) 0, List.replicate (n + 1) 0, List.replicate (n + 1) 0, [], [], 0, []⟩
def beginV (n : Nat) (b : Nat → Nat) : Lay
  | .watch => .slice (some ⟨b 3, 0, none⟩) (2 * (n + 1)) (2 * (n + 1))
  | .value => .slice (some ⟨b 5, 0, none⟩) (n + 1) (n + 1)
  | .level => .slice (some ⟨b 7, 0, none⟩) (n + 1) (n + 1)
  | .reason => .slice (some ⟨b 9, 0, none⟩) (n + 1) (n + 1)
  | .active => .slice (some ⟨b 11, 0, none⟩) (n + 1) (n + 1)
  | _ => .slice none 0 0
theorem own_made {w : World} {B b n : Nat} {z : Value} {e : TypeId} (hb : w.heap[b]? = some (.cells (madeCells #[z] n) e)) (hB : B ≤ b) (hn : n ≤ 9223372036854775807) : w.ownsRow B e 1 (.slice (some ⟨b, 0, none⟩) n n) n (List.replicate n z) :=
  ⟨by simp, .inr ⟨b, n, _, rfl, hB, hb, Nat.le_refl _, hn, by simp [size_madeCells], by rw [toList_madeCells_one]; simp⟩⟩
theorem rows_nil (n : Nat) : rowsOf (fun _ => (.slice none 0 0 : Value)) n = List.replicate n (.slice none 0 0) := by
  rw [List.eq_replicate_iff]
  simp [rowsOf]
theorem begin_srch {w : World} {B g n : Nat} {b : Nat → Nat} (hn : n < 1099511627776) (hg : w.heap[g]? = some (.cells (cellsS (beginS n) (beginV n b)) 67 (0, 0))) (hgB : B ≤ g) (hbg : ∀ i ∈ [3, 5, 7, 9, 11], b i ≠ g)
    (h3 : w.heap[b 3]? = some (.cells (madeCells #[.slice none 0 0] (2 * (n + 1))) 41)) (h5 : w.heap[b 5]? = some (.cells (madeCells #[.int .i8 0] (n + 1)) 53)) (h7 : ∀ i ∈ [7, 9, 11], w.heap[b i]? = some (.cells (madeCells #[.int .i64 0] (n + 1)) 3))
    (hB : ∀ i ∈ [3, 5, 7, 9, 11], B ≤ b i) (hinj : ∀ i ∈ [3, 5, 7, 9, 11], ∀ j ∈ [3, 5, 7, 9, 11], b i = b j → i = j) : Srch w B g (beginS n) (beginV n b) where
  own r := by
    have hnil : w.ownsRow B (ty r) 1 (.slice none 0 0) 0 [] := World.ownsRow_nil w B _ 1
    cases r
    case watch =>
      have := own_made (B := B) h3 (hB 3 (by simp)) (by omega)
      simp only [C, beginS, beginV, ty, List.length_replicate, rows_nil]
      exact this
    case value =>
      have := own_made (B := B) h5 (hB 5 (by simp)) (by omega)
      simpa [C, beginS, beginV, ty, nums] using this
    case level =>
      have := own_made (B := B) (h7 7 (by simp)) (hB 7 (by simp)) (by omega)
      simpa [C, beginS, beginV, ty, nums] using this
    case reason =>
      have := own_made (B := B) (h7 9 (by simp)) (hB 9 (by simp)) (by omega)
      simpa [C, beginS, beginV, ty, nums] using this
    case active =>
      have := own_made (B := B) (h7 11 (by simp)) (hB 11 (by simp)) (by omega)
      simpa [C, beginS, beginV, ty, nums] using this
    case wrow i =>
      have e : (List.replicate (2 * (n + 1)) ([] : List Int)).getD i [] = [] := by
        rw [List.getD_eq_getElem?_getD, List.getElem?_replicate]; split <;> rfl
      show w.ownsRow B 3 1 (.slice none 0 0) (nums .i64 ((List.replicate (2 * (n + 1)) ([] : List Int)).getD i [])).length (nums .i64 ((List.replicate (2 * (n + 1)) ([] : List Int)).getD i []))
      rw [e]
      exact hnil
    all_goals simpa [C, beginS, beginV, nums, rowsOf] using hnil
  inj r r' k h h' := by
    cases r <;> cases r' <;> simp only [beginV, Value.ownBlock, Option.some.injEq, reduceCtorEq] at h h' <;> first | rfl | exact absurd (hinj _ (by simp) _ (by simp) (h.trans h'.symm)) (by decide)
  obj := hg
  gB := hgB
  gne r := by
    cases r <;> simp only [beginV, Value.ownBlock, ne_eq, Option.some.injEq, reduceCtorEq, not_false_eq_true] <;> exact hbg _ (by simp)
  vc _ _ := rfl
  vw _ _ := rfl
  vp _ _ := rfl
theorem i22 : (Try.prog.info? 41).map (fun i => (i.zero, i.size, i.bytes)) = some (some (.slice none 0 0), 1, 24) := by kernel_rfl
theorem i65 : (Try.prog.info? 53).map (fun i => (i.zero, i.size, i.bytes)) = some (some (.int .i8 0), 1, 1) := by kernel_rfl
theorem i41 : (Try.prog.info? 3).map (fun i => (i.zero, i.size, i.bytes)) = some (some (.int .i64 0), 1, 8) := by kernel_rfl
theorem built67 (n : Int) (v3 v5 v7 v9 v11 : Value) (a b c d e : Option Addr) (m k : Nat) (h3 : v3 = .slice a m m) (h5 : v5 = .slice b k k) (h7 : v7 = .slice c k k) (h9 : v9 = .slice d k k) (h11 : v11 = .slice e k k) :
    Try.prog.built 67 [(0, .int .i64 n), (2, v3), (3, v5), (4, v7), (5, v9), (6, v11)] = some #[.int .i64 n, .slice none 0 0, v3, v5, v7, v9, v11, .slice none 0 0, .slice none 0 0, .int .i64 0, .slice none 0 0] := by
  subst h3 h5 h7 h9 h11
  kernel_rfl
def beginN (n : Nat) : Nat → Nat
  | 3 => 2 * (n + 1)
  | _ => n + 1
def beginO (n : Nat) : Nat → Obj
  | 3 => .cells (madeCells #[.slice none 0 0] (2 * (n + 1))) 41
  | 5 => .cells (madeCells #[.int .i8 0] (n + 1)) 53
  | _ => .cells (madeCells #[.int .i64 0] (n + 1)) 3
set_option maxHeartbeats 1000000 in
theorem begin_calls (w : World) (n : Nat) (hn : n < 1073741824) : Calls Try.prog 30 #[.int .i64 n] w fun e w' => ∃ g V, e = .returned (.pointer (some ⟨g, 0, none⟩)) ∧ Srch w' w.heap.size g (beginS n) V ∧ Fr (fun _ => False) w w' := by
  refine calls_of_FC (N := 20) (vs := [.int .i64 n]) Try.func30 rfl Try.ntmps30 (Nat.le_of_ble_eq_true rfl) ?_
  refine FC.seq (FC.region ?_)
  refine sg_ rfl rfl rfl ?_
  refine FL.nilK ?_
  refine FC.seq (FC.region ?_)
  refine mv_ rfl rfl rfl ?_
  refine FL.pur rfl rfl (p_add rfl rfl ((wr (by omega) (by omega)).trans (show (n : Int) + 1 = ((n + 1 : Nat) : Int) by omega))) ?_
  refine sg_ rfl rfl rfl ?_
  refine FL.nilK ?_
  refine FC.seq (FC.draw (fun _ => True) [] (bA 15 0) (by kernel_rfl) rfl rfl trivial ?_)
  refine FA.pur (i := 0) (bA 15 1) rfl (by kernel_rfl) rfl rfl (p_move rfl) ?_
  refine FA.pur (i := 1) (bA 15 3) rfl (by kernel_rfl) rfl rfl (p_move rfl) ?_
  refine FA.pur (i := 2) (bA 15 7) rfl (by kernel_rfl) rfl rfl (p_mul rfl rfl ((wr (by omega) (by omega)).trans (show 2 * ((n + 1 : Nat) : Int) = ((2 * (n + 1) : Nat) : Int) by omega))) ?_
  refine FA.pur (i := 4) (bA 15 23) rfl (by kernel_rfl) rfl rfl (p_move rfl) ?_
  refine FA.pur (i := 6) (bA 15 87) rfl (by kernel_rfl) rfl rfl (p_move rfl) ?_
  refine FA.pur (i := 8) (bA 15 343) rfl (by kernel_rfl) rfl rfl (p_move rfl) ?_
  refine FA.pur (i := 10) (bA 15 1367) rfl (by kernel_rfl) rfl rfl (p_move rfl) ?_
  refine FA.makes (fuel := 3) [3, 5, 7, 9, 11] (bA 15 4095) (fun i => i + 6) (beginO n) (fun i b => .slice (some ⟨b, 0, none⟩) (beginN n i) (beginN n i)) [(6, .int .i64 n), (8, .int .i64 ((2 * (n + 1) : Nat) : Int)), (10, .int .i64 ((n + 1 : Nat) : Int)), (12, .int .i64 ((n + 1 : Nat) : Int)), (14, .int .i64 ((n + 1 : Nat) : Int)), (16, .int .i64 ((n + 1 : Nat) : Int))]
    (by decide) ?_ ?_ (fun i _ j _ h => by omega) (by kernel_rfl) (by kernel_rfl) (fun _ _ => by simp) (fun _ => trivial) ⟨rfl, rfl, rfl, rfl, rfl, rfl, trivial⟩ ?_
  · intro i hi
    simp only [List.mem_cons, List.not_mem_nil, or_false] at hi
    rcases hi with rfl | rfl | rfl | rfl | rfl
    · exact ⟨_, _, _, _, rfl, rfl, fun ρ' hs w => p_make (kl := .i64) (hs.2.1) Try.underlying22 i22 rfl (show 24 * (2 * (n + 1)) ≤ 281474976710656 by omega) (show 2 * (n + 1) ≤ 9223372036854775807 by omega)⟩
    · exact ⟨_, _, _, _, rfl, rfl, fun ρ' hs w => p_make (kl := .i64) (hs.2.2.1) Try.underlying65 i65 rfl (show 1 * (n + 1) ≤ 281474976710656 by omega) (show n + 1 ≤ 9223372036854775807 by omega)⟩
    · exact ⟨_, _, _, _, rfl, rfl, fun ρ' hs w => p_make (kl := .i64) (hs.2.2.2.1) Try.underlying41 i41 rfl (show 8 * (n + 1) ≤ 281474976710656 by omega) (show n + 1 ≤ 9223372036854775807 by omega)⟩
    · exact ⟨_, _, _, _, rfl, rfl, fun ρ' hs w => p_make (kl := .i64) (hs.2.2.2.2.1) Try.underlying41 i41 rfl (show 8 * (n + 1) ≤ 281474976710656 by omega) (show n + 1 ≤ 9223372036854775807 by omega)⟩
    · exact ⟨_, _, _, _, rfl, rfl, fun ρ' hs w => p_make (kl := .i64) (hs.2.2.2.2.2.1) Try.underlying41 i41 rfl (show 8 * (n + 1) ≤ 281474976710656 by omega) (show n + 1 ≤ 9223372036854775807 by omega)⟩
  · intro i hi ρ' v hs
    obtain ⟨a1, a2, a3, a4, a5, a6, _⟩ := hs
    simp only [List.mem_cons, List.not_mem_nil, or_false] at hi
    rcases hi with rfl | rfl | rfl | rfl | rfl <;> exact ⟨a1, a2, a3, a4, a5, a6, trivial⟩
  intro b ρ' w1 hs hb hinj hf
  refine FA.sub [(6, .int .i64 n), (9, .slice (some ⟨b 3, 0, none⟩) (2 * (n + 1)) (2 * (n + 1))), (11, .slice (some ⟨b 5, 0, none⟩) (n + 1) (n + 1)), (13, .slice (some ⟨b 7, 0, none⟩) (n + 1) (n + 1)), (15, .slice (some ⟨b 9, 0, none⟩) (n + 1) (n + 1)), (17, .slice (some ⟨b 11, 0, none⟩) (n + 1) (n + 1))] ⟨hs.1, (hb 3 (by simp)).1, (hb 5 (by simp)).1, (hb 7 (by simp)).1, (hb 9 (by simp)).1, (hb 11 (by simp)).1, trivial⟩ ?_
  refine FA.pur (i := 12) (bA 15 8191) rfl (by kernel_rfl) rfl rfl (p_build (parts := [(0, .tmp 6), (2, .tmp 9), (3, .tmp 11), (4, .tmp 13), (5, .tmp 15), (6, .tmp 17)]) (fun a ha => by simp only [List.map_cons, List.map_nil]; rw [ha.ev (x := .tmp 6) rfl, ha.ev (x := .tmp 9) rfl, ha.ev (x := .tmp 11) rfl, ha.ev (x := .tmp 13) rfl, ha.ev (x := .tmp 15) rfl, ha.ev (x := .tmp 17) rfl]) (built67 _ _ _ _ _ _ _ _ _ _ _ _ _ rfl rfl rfl rfl rfl)) ?_
  refine FA.one (i := 13) _ _ (bA 15 16383) rfl (by kernel_rfl) (by decide) rfl rfl (p_box rfl) trivial ?_
  refine FA.pur (i := 14) (bA 15 32767) rfl (by kernel_rfl) rfl rfl (p_assign rfl) ?_
  refine FA.doneK (by kernel_rfl) ?_
  refine FC.ret ?_
  repeat with_reducible first | refine thn_ret ?_ | refine blk_ret ?_ | refine nog_ret ?_
  have hk : ∀ i ∈ [3, 5, 7, 9, 11], b i < w1.heap.size := fun i hi => (Array.getElem?_eq_some_iff.1 (hb i hi).2.1).1
  have hkeep : ∀ (i : Nat) (o : Obj) (o' : Obj), i ∈ [3, 5, 7, 9, 11] → w1.heap[b i]? = some o' → (w1.alloc o).heap[b i]? = some o' := fun i o o' hi ho => (Below.heap_alloc w1 o _ (hk i hi)).trans ho
  refine ret1 Try.results30 rfl ⟨w1.heap.size, beginV n b, rfl, begin_srch (by omega) (heap_alloc_new w1 _) hf.size (fun i hi => by have := hk i hi; omega) (hkeep 3 _ _ (by simp) (hb 3 (by simp)).2.1) (hkeep 5 _ _ (by simp) (hb 5 (by simp)).2.1) ?_ (fun i hi => (hb i hi).2.2) hinj, ((Fr.refl _ w).drew.trans hf fun _ h => .inl h).alloc _⟩
  intro i hi
  simp only [List.mem_cons, List.not_mem_nil, or_false] at hi
  rcases hi with rfl | rfl | rfl
  · exact hkeep 7 _ _ (by simp) (hb 7 (by simp)).2.1
  · exact hkeep 9 _ _ (by simp) (hb 9 (by simp)).2.1
  · exact hkeep 11 _ _ (by simp) (hb 11 (by simp)).2.1
end Go.Proofs.Ytcahhbcehnbdkaa.Sv

/- Propagation as a law: what follows from clauses, and what the watched literals keep. Plain Lean. -/
namespace Go.Proofs.Ytcahhbcehnbdkaa.Sv
open Go.RowKit Go.Proofs.YtcahhbcehnbdkaaW.PrintWords

/-- What follows by unit propagation from clauses and assumptions. -/
inductive D (Φ : List (List Int)) (A : Int → Prop) : Int → Prop
  | base {l : Int} : A l → D Φ A l
  | unit {c : List Int} {l : Int} : c ∈ Φ → l ∈ c → (∀ m ∈ c, m ≠ l → D Φ A (-m)) → D Φ A l
/-- A clause has only false literals. -/
def Conf (Φ : List (List Int)) (A : Int → Prop) : Prop := ∃ c ∈ Φ, ∀ m ∈ c, D Φ A (-m)
theorem D.mono {Φ Φ' : List (List Int)} {A A' : Int → Prop} (hΦ : ∀ c ∈ Φ, c ∈ Φ') (hA : ∀ l, A l → A' l) {l : Int} (h : D Φ A l) : D Φ' A' l := by
  induction h with
  | base h => exact .base (hA _ h)
  | unit h1 h2 _ ih => exact .unit (hΦ _ h1) h2 ih

def cw (s : S) (j : Nat) : List Int := s.clauses.getD j []
def row (s : S) (q : Nat) : List Int := s.watch.getD q []
def cd (l : Int) : Nat := (codeL l).toNat
def Two (s : S) (j : Nat) : Prop := j < s.clauses.length ∧ 2 ≤ (cw s j).length
def Wt (s : S) (j : Nat) (x y : Int) : Prop := (x = rd (cw s j) 0 ∧ y = rd (cw s j) 1) ∨ (x = rd (cw s j) 1 ∧ y = rd (cw s j) 0)
theorem Wt.symm {s : S} {j : Nat} {x y : Int} (h : Wt s j x y) : Wt s j y x := h.elim (fun e => .inr ⟨e.2, e.1⟩) fun e => .inl ⟨e.2, e.1⟩
/-- The watch lists name exactly the watched literals. -/
structure Net (s : S) (n : Nat) : Prop where
  has : ∀ j x y, Two s j → Wt s j x y → (j : Int) ∈ row s (cd x)
  only : ∀ q (j : Nat), q < 2 * n → (j : Int) ∈ row s q → ∃ x y, Wt s j x y ∧ q = cd x
  nd : ∀ q, (row s q).Nodup
  cnd : ∀ c ∈ s.clauses, c.Nodup
def Wat (s : S) (k : Nat) : Prop := ∀ j x y, Two s j → Wt s j x y → -x ∈ s.trail.take k → y ∈ s.trail.take k
def Pro (s : S) (h : Nat) (E : Nat → Int → Prop) : Prop := ∀ j x y, Two s j → Wt s j x y → -x ∈ s.trail.take h → y ∈ s.trail ∨ E j x
structure Ok (Φ : List (List Int)) (A : Int → Prop) (s : S) (n T : Nat) (ks : List Nat) : Prop where
  good : Good s n T
  net : Net s n
  tnd : (s.trail.map av).Nodup
  only : ∀ l, Lit n l → l ≠ 0 → ofv s l = 1 → l ∈ s.trail
  sound : ∀ l ∈ s.trail, D Φ A l
  src : ∀ j, Two s j → ∃ c ∈ Φ, ∀ x, x ∈ c ↔ x ∈ cw s j
  kle : ∀ k ∈ ks, k ≤ s.trail.length
  wat : ∀ k ∈ ks, Wat s k

section
variable {Φ : List (List Int)} {A : Int → Prop} {s : S} {n T : Nat} {ks : List Nat}
theorem Ok.false_ (h : Ok Φ A s n T ks) {l : Int} (hl : Lit n l) (hz : l ≠ 0) : ofv s l = -1 ↔ -l ∈ s.trail := by
  constructor
  · intro e
    exact h.only (-l) hl.neg (by omega) (by rw [ofv_neg hz, e]; rfl)
  · intro hm
    have := h.good.tt _ hm
    rw [ofv_neg hz] at this
    omega
theorem Ok.true_ (h : Ok Φ A s n T ks) {l : Int} (hl : Lit n l) (hz : l ≠ 0) : ofv s l = 1 ↔ l ∈ s.trail := ⟨h.only l hl hz, h.good.tt l⟩
theorem Ok.apart (h : Ok Φ A s n T ks) {l : Int} (h1 : l ∈ s.trail) : -l ∉ s.trail := fun h2 => by
  have e1 := h.good.tt _ h1
  have e2 := h.good.tt _ h2
  rw [ofv_neg (h.good.nzt _ h1)] at e2
  omega
theorem cw_mem {j : Nat} (h : j < s.clauses.length) : cw s j ∈ s.clauses := mem_getD h
theorem Two.lits (h : Ok Φ A s n T ks) {j : Nat} (hj : Two s j) {x : Int} (hx : x ∈ cw s j) : Lit n x ∧ x ≠ 0 := ⟨h.good.cl _ (cw_mem hj.1) x hx, h.good.nzc _ (cw_mem hj.1) x hx⟩
theorem Wt.mem {j : Nat} {x y : Int} (hj : Two s j) (h : Wt s j x y) : x ∈ cw s j ∧ y ∈ cw s j := by
  have h0 := rd_mem (cw s j) 0 (by omega) (by have := hj.2; omega)
  have h1 := rd_mem (cw s j) 1 (by omega) (by have := hj.2; omega)
  rcases h with ⟨rfl, rfl⟩ | ⟨rfl, rfl⟩
  · exact ⟨h0, h1⟩
  · exact ⟨h1, h0⟩
theorem nodup_ne {c : List Int} (h : c.Nodup) {a b : Nat} (ha : a < c.length) (hb : b < c.length) (hab : a ≠ b) : rd c (a : Int) ≠ rd c (b : Int) := by
  rw [rd_of_lt c a (by omega) (by omega), rd_of_lt c b (by omega) (by omega)]
  have hp := List.pairwise_iff_getElem.1 h
  rcases Nat.lt_or_gt_of_ne hab with h1 | h1
  · exact hp a b ha hb h1
  · exact (hp b a hb ha h1).symm
theorem Wt.ne (hn : Net s n) {j : Nat} {x y : Int} (hj : Two s j) (h : Wt s j x y) : x ≠ y := by
  have := nodup_ne (hn.cnd _ (cw_mem hj.1)) (a := 0) (b := 1) (by have := hj.2; omega) (by have := hj.2; omega) (by decide)
  rcases h with ⟨rfl, rfl⟩ | ⟨rfl, rfl⟩
  · exact this
  · exact this.symm

/-! ### A clause is turned, its two watched literals stay -/
theorem cw_setCl (j : Nat) (i : Int) (c : List Int) : cw (setCl s i c) j = if j = i.toNat then (if j < s.clauses.length then c else []) else cw s j := by
  unfold cw setCl
  simp only [List.getD_eq_getElem?_getD, List.getElem?_set]
  by_cases e : j = i.toNat
  · subst e
    by_cases h : i.toNat < s.clauses.length
    · simp [h]
    · simp [h]
  · simp [e, Ne.symm e]
structure Same (c c' : List Int) : Prop where
  len : c'.length = c.length
  mem : ∀ x, x ∈ c' ↔ x ∈ c
  nd : c.Nodup → c'.Nodup
  two : (rd c' 0 = rd c 0 ∧ rd c' 1 = rd c 1) ∨ (rd c' 0 = rd c 1 ∧ rd c' 1 = rd c 0)
theorem Two.setCl {i : Int} {c : List Int} (hc : Same (cl s i) c) {j : Nat} : Two (setCl s i c) j ↔ Two s j := by
  unfold Two
  rw [cw_setCl, show (Sv.setCl s i c).clauses.length = s.clauses.length by simp [Sv.setCl]]
  by_cases e : j = i.toNat
  · subst e
    rw [if_pos rfl]
    constructor
    · rintro ⟨h1, h2⟩; rw [if_pos h1, hc.len] at h2; exact ⟨h1, h2⟩
    · rintro ⟨h1, h2⟩; rw [if_pos h1, hc.len]; exact ⟨h1, h2⟩
  · rw [if_neg e]
theorem Wt.setCl {i : Int} {c : List Int} (hi : i.toNat < s.clauses.length) (hc : Same (cl s i) c) {j : Nat} {x y : Int} : Wt (setCl s i c) j x y ↔ Wt s j x y := by
  unfold Wt
  rw [cw_setCl]
  by_cases e : j = i.toNat
  · subst e
    rw [if_pos rfl, if_pos hi]
    have e2 : cw s i.toNat = cl s i := rfl
    rw [e2]
    rcases hc.two with ⟨a, b⟩ | ⟨a, b⟩
    · rw [a, b]
    · rw [a, b]; exact Or.comm
  · rw [if_neg e]
theorem Ok.setCl (h : Ok Φ A s n T ks) {i : Int} {c : List Int} (hi : i.toNat < s.clauses.length) (hc : Same (cl s i) c) : Ok Φ A (setCl s i c) n T ks where
  good := h.good.setCl hi hc.len fun l hl => (hc.mem l).1 hl
  net := {
    has := fun j x y hj hw => h.net.has j x y ((Two.setCl hc).1 hj) ((Wt.setCl hi hc).1 hw)
    only := fun q j hq hj => by
      obtain ⟨x, y, hw, e⟩ := h.net.only q j hq hj
      exact ⟨x, y, (Wt.setCl hi hc).2 hw, e⟩
    nd := h.net.nd
    cnd := fun c' hc' => by
      rcases List.mem_or_eq_of_mem_set hc' with h1 | h1
      · exact h.net.cnd c' h1
      · rw [h1]; exact hc.nd (h.net.cnd _ (mem_getD hi)) }
  tnd := h.tnd
  only := h.only
  sound := h.sound
  src j hj := by
    obtain ⟨c0, h1, h2⟩ := h.src j ((Two.setCl hc).1 hj)
    refine ⟨c0, h1, fun x => ?_⟩
    rw [h2, cw_setCl]
    by_cases e : j = i.toNat
    · subst e; rw [if_pos rfl, if_pos hi]; exact (hc.mem x).symm
    · rw [if_neg e]
  kle := h.kle
  wat k hk j x y hj hw := h.wat k hk j x y ((Two.setCl hc).1 hj) ((Wt.setCl hi hc).1 hw)
theorem Pro.setCl {k : Nat} {E : Nat → Int → Prop} (h : Pro s k E) {i : Int} {c : List Int} (hi : i.toNat < s.clauses.length) (hc : Same (cl s i) c) : Pro (setCl s i c) k E := fun j x y hj hw =>
  h j x y ((Two.setCl hc).1 hj) ((Wt.setCl hi hc).1 hw)

/-! ### A literal is made true -/
theorem Ok.setS (h : Ok Φ A s n T ks) {l r : Int} (hl : Lit n l) (hz : l ≠ 0) (h0 : ofv s l = 0) (hd : D Φ A l) : Ok Φ A (setS s l r) n T ks where
  good := h.good.setS hl hz h0
  net := ⟨h.net.has, h.net.only, h.net.nd, h.net.cnd⟩
  tnd := by
    show ((s.trail ++ [l]).map av).Nodup
    rw [List.map_append, List.nodup_append]
    refine ⟨h.tnd, by simp, fun a ha b hb => ?_⟩
    simp only [List.map_cons, List.map_nil, List.mem_singleton] at hb
    subst hb
    obtain ⟨x, hx, rfl⟩ := List.mem_map.1 ha
    intro e
    have e1 := h.good.tt x hx
    rcases av_inj (a := x) (b := l) (by rw [e]) with e2 | e2
    · subst e2; omega
    · have e3 : l = -x := by omega
      rw [e3, ofv_neg (h.good.nzt x hx)] at h0
      omega
  only x hx hxz hv := by
    show x ∈ s.trail ++ [l]
    by_cases e : (av l).toNat = (av x).toNat
    · rcases av_inj e with e2 | e2
      · subst e2; simp
      · have e3 : x = -l := by omega
        subst e3
        have := ofv_set_self (s := s) (r := r) h.good.value hl
        rw [ofv_neg hz, this] at hv
        omega
    · rw [ofv_set_other e] at hv
      exact List.mem_append.2 (.inl (h.only x hx hxz hv))
  sound x hx := by
    rcases List.mem_append.1 hx with h1 | h1
    · exact h.sound x h1
    · rw [List.mem_singleton.1 h1]; exact hd
  src := h.src
  kle k hk := by
    have := h.kle k hk
    show k ≤ (s.trail ++ [l]).length
    rw [List.length_append]; omega
  wat k hk j x y hj hw := by
    show -x ∈ (s.trail ++ [l]).take k → y ∈ (s.trail ++ [l]).take k
    rw [List.take_append_of_le_length (h.kle k hk)]
    exact h.wat k hk j x y hj hw
theorem Pro.setS {k : Nat} {E : Nat → Int → Prop} (h : Pro s k E) (hk : k ≤ s.trail.length) {l r : Int} : Pro (setS s l r) k E := fun j x y hj hw hx => by
  have hx' : -x ∈ (s.trail ++ [l]).take k := hx
  rw [List.take_append_of_le_length hk] at hx'
  exact (h j x y hj hw hx').imp (fun h => List.mem_append.2 (.inl h)) id
end
end Go.Proofs.Ytcahhbcehnbdkaa.Sv

/- Propagation as a law: one round over a watch list. -/
namespace Go.Proofs.Ytcahhbcehnbdkaa.Sv
open Go.RowKit Go.Proofs.YtcahhbcehnbdkaaW.PrintWords

section
variable {Φ : List (List Int)} {A : Int → Prop} {s : S} {n T : Nat} {ks : List Nat}
theorem cd_inj {a b : Int} (ha : Lit n a) (hb : Lit n b) (h : cd a = cd b) : a = b := codeL_inj (by have := ha.code; have := hb.code; unfold cd at h; omega)
theorem row_setRow (q0 q : Nat) (l : List Int) : row (setRow s q0 l) q = if q = q0 then (if q < s.watch.length then l else []) else row s q := by
  unfold row setRow
  simp only [List.getD_eq_getElem?_getD, List.getElem?_set]
  by_cases e : q = q0
  · subst e
    by_cases h : q < s.watch.length
    · simp [h]
    · simp [h]
  · simp [e, Ne.symm e]
theorem row_pushRow (p q : Nat) (x : Int) : row (pushRow s p x) q = if q = p then (if q < s.watch.length then row s q ++ [x] else []) else row s q := by
  unfold row pushRow pushW
  simp only [List.getD_eq_getElem?_getD, List.getElem?_set]
  by_cases e : q = p
  · subst e
    by_cases h : q < s.watch.length
    · simp [h]
    · simp [h]
  · simp [e, Ne.symm e]
theorem same_swap (c : List Int) (h : 2 ≤ c.length) : Same c (swp c 0 1) := by
  have hm := Mix.swap (a := 0) (b := c.length) c 0 1 (by omega) (by omega) (by omega) (by omega) (Nat.le_refl _)
  refine ⟨swp_length .., fun x => hm.perm.mem_iff, fun hn => (hm.perm.nodup_iff).2 hn, .inr ⟨?_, ?_⟩⟩
  · exact (g_swp c 0 1 0 (by omega) (by omega)).trans (by simp; rfl)
  · exact (g_swp c 0 1 1 (by omega) (by omega)).trans (by simp; rfl)
theorem same_front (out : Int) (c : List Int) (h : 2 ≤ c.length) : Same c (front out c) := by
  unfold front
  split
  · exact same_swap c h
  · exact ⟨rfl, fun _ => .rfl, id, .inl ⟨rfl, rfl⟩⟩
theorem front_one {out : Int} {c : List Int} (h : 2 ≤ c.length) (ho : out = rd c 0 ∨ out = rd c 1) : rd (front out c) 1 = out := by
  unfold front
  split
  · rename_i e
    exact (g_swp c 0 1 1 (by omega) (by omega)).trans (by simp; exact e)
  · rename_i e
    rcases ho with ho | ho
    · exact absurd ho.symm e
    · exact ho.symm

theorem Ok.move {q0 : Nat} {out i : Int} {kept rest : List Int} (h : Ok Φ A (setRow s q0 (kept ++ i :: rest)) n T ks) (hI : Inner s n T q0 out kept (i :: rest)) {k : Nat} (hk : 2 ≤ k) (hkl : k < (cl s i).length) (h1 : rd (cl s i) 1 = out) (hv : ofv s (rd (cl s i) k) ≠ -1)
    {hd : Nat} (hp : Pro (setRow s q0 (kept ++ i :: rest)) hd fun j x => x = out ∧ (j : Int) ∈ i :: rest) :
    Ok Φ A (setRow (pushRow (Sv.setCl s i (swp (cl s i) 1 k)) (cd (rd (cl s i) k)) i) q0 (kept ++ rest)) n T ks ∧
      Pro (setRow (pushRow (Sv.setCl s i (swp (cl s i) 1 k)) (cd (rd (cl s i) k)) i) q0 (kept ++ rest)) hd (fun j x => x = out ∧ (j : Int) ∈ rest) ∧
      Inner (pushRow (Sv.setCl s i (swp (cl s i) 1 k)) (cd (rd (cl s i) k)) i) n T q0 out kept rest := by
  obtain ⟨i0, i1, i2, i3⟩ := hI.entry
  obtain ⟨c, hc⟩ : ∃ c, c = cl s i := ⟨_, rfl⟩
  rw [← hc] at i2 i3 hkl h1 hv ⊢
  obtain ⟨l2, hl2⟩ : ∃ l2, l2 = rd c k := ⟨_, rfl⟩
  rw [← hl2] at hv ⊢
  obtain ⟨t, rfl⟩ : ∃ t : Nat, i = t := ⟨i.toNat, by omega⟩
  have hm := Mix.swap (a := 0) (b := c.length) c 1 k (by omega) (by omega) (by omega) hkl (Nat.le_refl _)
  have hmem2 : l2 ∈ c := by rw [hl2]; exact rd_mem c k (by omega) (by omega)
  have hmem0 : rd c 0 ∈ c := rd_mem c 0 (by omega) (by omega)
  have hmem1 : out ∈ c := by rw [← h1]; exact rd_mem c 1 (by omega) (by omega)
  obtain ⟨L2, Z2⟩ := i3 l2 hmem2
  obtain ⟨L0, Z0⟩ := i3 _ hmem0
  obtain ⟨L1, Z1⟩ := i3 _ hmem1
  have hturn := hI.turned (c := swp c 1 k) (by rw [swp_length, hc]) (fun l hl => by rw [← hc]; exact swp_mem (by omega) (by omega) (by omega) (by omega) hl)
  obtain ⟨hne, hI2⟩ := hturn.move (l := l2) L2 hv
  have hcnd : c.Nodup := by rw [hc]; exact h.net.cnd _ (mem_getD (by show (t : Int).toNat < s.clauses.length; omega))
  have n02 : rd c 0 ≠ l2 := by rw [hl2]; exact nodup_ne hcnd (a := 0) (b := k) (by omega) hkl (by omega)
  have n12 : out ≠ l2 := by rw [hl2, ← h1]; exact nodup_ne hcnd (a := 1) (b := k) (by omega) hkl (by omega)
  have n01 : rd c 0 ≠ out := by rw [← h1]; exact nodup_ne hcnd (a := 0) (b := 1) (by omega) (by omega) (by omega)
  have hw := hI.lenw
  have hq0 : q0 = cd out := hI.outq
  have hq0l := hI.q0lt
  have hcode2 := L2.code
  have hfo := hI.false_
  have hout : -out ∈ s.trail := (h.false_ L1 Z1).1 hfo
  have hout' : out ∉ s.trail := fun e => h.apart e hout
  have hl2' : -l2 ∉ s.trail := fun e => hv ((h.false_ L2 Z2).2 e)
  -- what the clauses are then
  have hcw : ∀ j, cw (setRow (pushRow (Sv.setCl s (t : Int) (swp c 1 k)) (cd l2) (t : Int)) q0 (kept ++ rest)) j = if j = t then swp c 1 k else cw s j := fun j => by
    show cw (Sv.setCl s (t : Int) (swp c 1 k)) j = _
    rw [cw_setCl]
    by_cases e : j = t
    · rw [if_pos (by omega), if_pos e, if_pos (by omega)]
    · rw [if_neg (by omega), if_neg e]
  have hcwt : cw s t = c := hc.symm
  have g0 : rd (swp c 1 k) 0 = rd c 0 := (g_swp c 1 k 0 (by omega) hkl).trans (by rw [if_neg (by omega), if_neg (by omega)]; rfl)
  have g1 : rd (swp c 1 k) 1 = l2 := (g_swp c 1 k 1 (by omega) hkl).trans (by rw [if_neg (by omega), if_pos rfl, hl2]; rfl)
  have two : ∀ j, Two (setRow (pushRow (Sv.setCl s (t : Int) (swp c 1 k)) (cd l2) (t : Int)) q0 (kept ++ rest)) j ↔ Two s j := fun j => by
    unfold Two
    rw [hcw, show (setRow (pushRow (Sv.setCl s (t : Int) (swp c 1 k)) (cd l2) (t : Int)) q0 (kept ++ rest)).clauses.length = s.clauses.length by simp [setRow, pushRow, Sv.setCl]]
    by_cases e : j = t
    · subst e; rw [if_pos rfl, swp_length, hcwt]
    · rw [if_neg e]
  have wtO : ∀ j x y, j ≠ t → (Wt (setRow (pushRow (Sv.setCl s (t : Int) (swp c 1 k)) (cd l2) (t : Int)) q0 (kept ++ rest)) j x y ↔ Wt s j x y) := fun j x y e => by
    unfold Wt; rw [hcw, if_neg e]
  have wtT : ∀ x y, Wt (setRow (pushRow (Sv.setCl s (t : Int) (swp c 1 k)) (cd l2) (t : Int)) q0 (kept ++ rest)) t x y ↔ (x = rd c 0 ∧ y = l2) ∨ (x = l2 ∧ y = rd c 0) := fun x y => by
    unfold Wt; rw [hcw, if_pos rfl, g0, g1]
  have wtS : ∀ x y, Wt s t x y ↔ (x = rd c 0 ∧ y = out) ∨ (x = out ∧ y = rd c 0) := fun x y => by
    unfold Wt; rw [hcwt, h1]
  -- what the rows are then
  have hrow : ∀ q, q < 2 * n → row (setRow (pushRow (Sv.setCl s (t : Int) (swp c 1 k)) (cd l2) (t : Int)) q0 (kept ++ rest)) q = if q = q0 then kept ++ rest else if q = cd l2 then row s q ++ [(t : Int)] else row s q := fun q hq => by
    rw [row_setRow]
    by_cases e : q = q0
    · rw [if_pos e, if_pos e, if_pos (by show q < (pushRow (Sv.setCl s (t : Int) (swp c 1 k)) (cd l2) (t : Int)).watch.length; simp [pushRow, pushW, Sv.setCl, hw]; omega)]
    · rw [if_neg e, if_neg e, row_pushRow]
      by_cases e2 : q = cd l2
      · rw [if_pos e2, if_pos e2, if_pos (by show q < s.watch.length; omega)]; rfl
      · rw [if_neg e2, if_neg e2]; rfl
  have hrow' : ∀ q, q < 2 * n → row (setRow s q0 (kept ++ (t : Int) :: rest)) q = if q = q0 then kept ++ (t : Int) :: rest else row s q := fun q hq => by
    rw [row_setRow]
    by_cases e : q = q0
    · rw [if_pos e, if_pos e, if_pos (by omega)]
    · rw [if_neg e, if_neg e]
  have cdlt : ∀ {x : Int}, Lit n x → cd x < 2 * n := fun hx => by have := hx.code; unfold cd; omega
  have tT : Two s t := ⟨by omega, by rw [hcwt]; exact i2⟩
  have hnd0 : (kept ++ (t : Int) :: rest).Nodup := by
    have := h.net.nd q0
    rwa [hrow' q0 hq0l, if_pos rfl] at this
  have htnot : (t : Int) ∉ kept ++ rest := by
    have := (List.perm_middle (a := (t : Int)) (l₁ := kept) (l₂ := rest)).nodup_iff.1 hnd0
    exact (List.nodup_cons.1 this).1
  have honly2 : ∀ q, q < 2 * n → (t : Int) ∈ row (setRow s q0 (kept ++ (t : Int) :: rest)) q → q = cd (rd c 0) ∨ q = q0 := fun q hq hj => by
    obtain ⟨x, y, hxy, e⟩ := h.net.only q t hq hj
    rcases (wtS x y).1 hxy with ⟨rfl, _⟩ | ⟨rfl, _⟩
    · exact .inl e
    · exact .inr (e.trans hq0.symm)
  refine ⟨{ good := hI2.good, net := ?_, tnd := h.tnd, only := h.only, sound := h.sound, src := fun j hj => ?_, kle := h.kle, wat := fun kk hkk => ?_ }, ?_, hI2⟩
  · refine ⟨fun j x y hj hxy => ?_, fun q j hq hj => ?_, fun q => ?_, fun c' hc' => ?_⟩
    · have hj' := (two j).1 hj
      by_cases e : j = t
      · subst e
        rcases (wtT x y).1 hxy with ⟨rfl, rfl⟩ | ⟨rfl, rfl⟩
        · have := h.net.has j (rd c 0) out hj' ((wtS _ _).2 (.inl ⟨rfl, rfl⟩))
          have nq : cd (rd c 0) ≠ q0 := fun e => n01 (cd_inj L0 L1 (e.trans hq0))
          rw [hrow' _ (cdlt L0), if_neg nq] at this
          rw [hrow _ (cdlt L0), if_neg nq]
          split
          · exact List.mem_append.2 (.inl this)
          · exact this
        · rw [hrow _ (cdlt L2), if_neg (show cd x ≠ q0 from hne), if_pos rfl]
          simp
      · have hxy' := (wtO j x y e).1 hxy
        have := h.net.has j x y hj' hxy'
        have Lx := (Two.lits h (j := j) hj' (hxy'.mem hj').1).1
        rw [hrow' _ (cdlt Lx)] at this
        rw [hrow _ (cdlt Lx)]
        by_cases e2 : cd x = q0
        · rw [if_pos e2] at this ⊢
          rcases List.mem_append.1 this with h5 | h5
          · exact List.mem_append.2 (.inl h5)
          · rcases List.mem_cons.1 h5 with h6 | h6
            · exact absurd (by omega) e
            · exact List.mem_append.2 (.inr h6)
        · rw [if_neg e2] at this ⊢
          split
          · exact List.mem_append.2 (.inl this)
          · exact this
    · rw [hrow q hq] at hj
      by_cases e2 : q = q0
      · rw [if_pos e2] at hj
        have e : j ≠ t := fun e => htnot (e ▸ hj)
        have : (j : Int) ∈ row (setRow s q0 (kept ++ (t : Int) :: rest)) q := by
          rw [hrow' q hq, if_pos e2]
          rcases List.mem_append.1 hj with h5 | h5
          · exact List.mem_append.2 (.inl h5)
          · exact List.mem_append.2 (.inr (.tail _ h5))
        obtain ⟨x, y, hxy, e3⟩ := h.net.only q j hq this
        exact ⟨x, y, (wtO j x y e).2 hxy, e3⟩
      · rw [if_neg e2] at hj
        by_cases e4 : q = cd l2
        · rw [if_pos e4] at hj
          rcases List.mem_append.1 hj with h5 | h5
          · have h6 : (j : Int) ∈ row (setRow s q0 (kept ++ (t : Int) :: rest)) q := by rw [hrow' q hq, if_neg e2]; exact h5
            have e : j ≠ t := fun e => by
              rcases honly2 q hq (e ▸ h6) with h7 | h7
              · exact n02 (cd_inj L0 L2 (h7.symm.trans e4))
              · exact e2 h7
            obtain ⟨x, y, hxy, e3⟩ := h.net.only q j hq h6
            exact ⟨x, y, (wtO j x y e).2 hxy, e3⟩
          · obtain rfl : j = t := by have := List.mem_singleton.1 h5; omega
            exact ⟨l2, rd c 0, (wtT _ _).2 (.inr ⟨rfl, rfl⟩), e4⟩
        · rw [if_neg e4] at hj
          have h6 : (j : Int) ∈ row (setRow s q0 (kept ++ (t : Int) :: rest)) q := by rw [hrow' q hq, if_neg e2]; exact hj
          by_cases e : j = t
          · subst e
            rcases honly2 q hq h6 with h7 | h7
            · exact ⟨rd c 0, l2, (wtT _ _).2 (.inl ⟨rfl, rfl⟩), h7⟩
            · exact absurd h7 e2
          · obtain ⟨x, y, hxy, e3⟩ := h.net.only q j hq h6
            exact ⟨x, y, (wtO j x y e).2 hxy, e3⟩
    · by_cases hq : q < 2 * n
      · rw [hrow q hq]
        by_cases e2 : q = q0
        · rw [if_pos e2]
          have := (List.perm_middle (a := (t : Int)) (l₁ := kept) (l₂ := rest)).nodup_iff.1 hnd0
          exact (List.nodup_cons.1 this).2
        · have h5 := h.net.nd q
          rw [hrow' q hq, if_neg e2] at h5
          rw [if_neg e2]
          split
          · rename_i e4
            rw [List.nodup_append]
            refine ⟨h5, by simp, fun a ha b hb e => ?_⟩
            rw [List.mem_singleton] at hb
            subst hb; subst e
            have h6 : (t : Int) ∈ row (setRow s q0 (kept ++ (t : Int) :: rest)) q := by rw [hrow' q hq, if_neg e2]; exact ha
            rcases honly2 q hq h6 with h7 | h7
            · exact n02 (cd_inj L0 L2 (h7.symm.trans e4))
            · exact e2 h7
          · exact h5
      · have hlen : (setRow (pushRow (Sv.setCl s (t : Int) (swp c 1 k)) (cd l2) (t : Int)) q0 (kept ++ rest)).watch.length = 2 * n := by simp [setRow, pushRow, pushW, Sv.setCl, hw]
        unfold row
        rw [List.getD_eq_getElem?_getD, List.getElem?_eq_none (by omega)]
        simp
    · have hc'' : c' ∈ s.clauses.set (t : Int).toNat (swp c 1 k) := hc'
      rcases List.mem_or_eq_of_mem_set hc'' with h5 | h5
      · exact h.net.cnd c' h5
      · rw [h5]; exact hm.perm.nodup_iff.2 hcnd
  · obtain ⟨c0, e1, e2⟩ := h.src j ((two j).1 hj)
    refine ⟨c0, e1, fun x => ?_⟩
    rw [e2, hcw]
    by_cases e : j = t
    · subst e; rw [if_pos rfl]; exact (show x ∈ cw s j ↔ _ by rw [hcwt]; exact hm.perm.mem_iff.symm)
    · rw [if_neg e]; exact Iff.rfl
  · intro j x y hj hxy hx
    have hj' := (two j).1 hj
    by_cases e : j = t
    · subst e
      rcases (wtT x y).1 hxy with ⟨rfl, rfl⟩ | ⟨rfl, rfl⟩
      · exact absurd (List.mem_of_mem_take (h.wat kk hkk j (rd c 0) out hj' ((wtS _ _).2 (.inl ⟨rfl, rfl⟩)) hx)) hout'
      · exact absurd (List.mem_of_mem_take hx) hl2'
    · exact h.wat kk hkk j x y hj' ((wtO j x y e).1 hxy) hx
  · intro j x y hj hxy hx
    have hj' := (two j).1 hj
    by_cases e : j = t
    · subst e
      rcases (wtT x y).1 hxy with ⟨rfl, rfl⟩ | ⟨rfl, rfl⟩
      · rcases hp j (rd c 0) out hj' ((wtS _ _).2 (.inl ⟨rfl, rfl⟩)) hx with h5 | h5
        · exact absurd h5 hout'
        · exact absurd h5.1 n01
      · exact absurd (List.mem_of_mem_take hx) hl2'
    · rcases hp j x y hj' ((wtO j x y e).1 hxy) hx with h5 | ⟨h5, h6⟩
      · exact .inl h5
      · rcases List.mem_cons.1 h6 with h7 | h7
        · exact absurd (by omega) e
        · exact .inr ⟨h5, h7⟩
end
end Go.Proofs.Ytcahhbcehnbdkaa.Sv

/- Propagation as a law: whole runs. -/
namespace Go.Proofs.Ytcahhbcehnbdkaa.Sv
open Go.RowKit Go.Proofs.YtcahhbcehnbdkaaW.PrintWords

/-- What propagation leaves as it was. -/
structure Ext (s r : S) : Prop where
  trail : ∃ more, r.trail = s.trail ++ more
  marks : r.marks = s.marks
  atoms : r.atoms = s.atoms
  nclauses : r.clauses.length = s.clauses.length
  proof : r.proof = s.proof
  active : r.active = s.active
  same : ∀ j, (Two r j ↔ Two s j) ∧ ∀ x, x ∈ cw r j ↔ x ∈ cw s j
theorem Ext.refl (s : S) : Ext s s := ⟨⟨[], by simp⟩, rfl, rfl, rfl, rfl, rfl, fun _ => ⟨.rfl, fun _ => .rfl⟩⟩
theorem Ext.trans {a b c : S} (h : Ext a b) (k : Ext b c) : Ext a c := by
  obtain ⟨m1, e1⟩ := h.trail
  obtain ⟨m2, e2⟩ := k.trail
  exact ⟨⟨m1 ++ m2, by rw [e2, e1, List.append_assoc]⟩, k.marks.trans h.marks, k.atoms.trans h.atoms, k.nclauses.trans h.nclauses, k.proof.trans h.proof, k.active.trans h.active, fun j => ⟨(k.same j).1.trans (h.same j).1, fun x => ((k.same j).2 x).trans ((h.same j).2 x)⟩⟩

theorem same_setCl {s : S} {i : Int} {c : List Int} (hi : i.toNat < s.clauses.length) (hl : c.length = (cl s i).length) (hm : ∀ x, x ∈ c ↔ x ∈ cl s i) (j : Nat) : (Two (setCl s i c) j ↔ Two s j) ∧ ∀ x, x ∈ cw (setCl s i c) j ↔ x ∈ cw s j := by
  have e0 : (setCl s i c).clauses.length = s.clauses.length := by simp [setCl]
  have e1 := cw_setCl (s := s) j i c
  by_cases e : j = i.toNat
  · subst e
    rw [if_pos rfl, if_pos hi] at e1
    refine ⟨?_, fun x => by rw [e1]; exact hm x⟩
    unfold Two
    rw [e0, e1, hl]
    exact Iff.rfl
  · rw [if_neg e] at e1
    refine ⟨?_, fun x => by rw [e1]⟩
    unfold Two
    rw [e0, e1]
section
variable {Φ : List (List Int)} {A : Int → Prop} {n T : Nat} {ks : List Nat}
theorem Pro.weak {s : S} {k : Nat} {E E' : Nat → Int → Prop} (h : Pro s k E) (he : ∀ j x, E j x → E' j x) : Pro s k E' := fun j x y a b c => (h j x y a b c).imp id (he j x)
theorem all_false {s : S} {out : Int} {c : List Int} (h2 : 2 ≤ c.length) (h1 : rd c 1 = out) (ho : ofv s out = -1) (hf : findO s c = none) : ∀ m ∈ c, m = rd c 0 ∨ ofv s m = -1 := fun m hm => by
  obtain ⟨i, hi, rfl⟩ := List.mem_iff_getElem.1 hm
  have e : c[i] = rd c (i : Int) := (rd_of_lt c i (by omega) (by omega)).symm
  rw [e]
  by_cases i0 : i = 0
  · subst i0; exact .inl rfl
  · by_cases i1 : i = 1
    · subst i1
      have : rd c ((1 : Nat) : Int) = out := h1
      rw [this]; exact .inr ho
    · exact .inr (other_none s c c.length 2 (by omega) hf i (by omega) hi)

def Hit (Φ : List (List Int)) (s : S) : Prop := ∃ c ∈ Φ, ∀ m ∈ c, -m ∈ s.trail
/-- What propagation does, step by step. -/
inductive Steps (n : Nat) : S → S → Prop
  | refl (s : S) : Steps n s s
  | row {s r : S} (q : Nat) (l : List Int) : Steps n s r → Steps n s (setRow r q l)
  | push {s r : S} (q : Nat) (x : Int) : Steps n s r → Steps n s (pushRow r q x)
  | turn {s r : S} {i : Int} {c : List Int} : Steps n s r → i.toNat < r.clauses.length → c.length = (cl r i).length → (∀ x, x ∈ c ↔ x ∈ cl r i) → Steps n s (setCl r i c)
  | head {s r : S} (k : Int) : Steps n s r → Steps n s { r with head := k }
  | unit {s r : S} {l i : Int} : Steps n s r → 0 ≤ i → i.toNat < r.clauses.length → l ∈ cl r i → Lit n l → l ≠ 0 → ofv r l = 0 → (∀ m ∈ cl r i, m = l ∨ -m ∈ r.trail) → Steps n s (setS r l i)
theorem Steps.trans {n : Nat} {a b c : S} (h : Steps n a b) (k : Steps n b c) : Steps n a c := by
  induction k with
  | refl => exact h
  | row q l _ ih => exact .row q l ih
  | push q x _ ih => exact .push q x ih
  | turn _ h1 h2 h3 ih => exact .turn ih h1 h2 h3
  | head k _ ih => exact .head k ih
  | unit _ h1 h2 h3 h4 h5 h6 h7 ih => exact .unit ih h1 h2 h3 h4 h5 h6 h7
/-- All literals of a clause are false. -/
def Clash (s : S) (i : Int) : Prop := (i.toNat < s.clauses.length ∧ 2 ≤ (cl s i).length) ∧ ∀ m ∈ cl s i, -m ∈ s.trail
theorem inner_ok (q0 : Nat) (out : Int) (hd : Nat) : ∀ (rest : List Int) (s : S) (kept : List Int), Inner s n T q0 out kept rest → Ok Φ A (setRow s q0 (kept ++ rest)) n T ks → Pro (setRow s q0 (kept ++ rest)) hd (fun j x => x = out ∧ (j : Int) ∈ rest) → hd ≤ s.trail.length →
    Ok Φ A (inner q0 out rest s kept).1 n T ks ∧ Ext s (inner q0 out rest s kept).1 ∧ (inner q0 out rest s kept).1.head = s.head ∧
      (((inner q0 out rest s kept).2 = none ∧ Pro (inner q0 out rest s kept).1 hd fun _ _ => False) ∨ ∃ i, (inner q0 out rest s kept).2 = some i ∧ 0 ≤ i ∧ Hit Φ (inner q0 out rest s kept).1 ∧ Clash (inner q0 out rest s kept).1 i) ∧ Steps n s (inner q0 out rest s kept).1
  | [], s, kept, hI, h, hp, hh => by
    rw [List.append_nil] at h hp
    exact ⟨h, ⟨⟨[], by simp [inner, setRow]⟩, rfl, rfl, rfl, rfl, rfl, fun _ => ⟨.rfl, fun _ => .rfl⟩⟩, rfl, .inl ⟨rfl, hp.weak fun _ _ h => absurd h.2 (by simp)⟩, .row _ _ (.refl _)⟩
  | i :: rest, s, kept, hI, h, hp, hh => by
    obtain ⟨i0, i1, i2, i3⟩ := hI.entry
    have hil : i.toNat < s.clauses.length := by omega
    have hw := hI.lenw
    obtain ⟨c1, hc1⟩ : ∃ c1, c1 = front out (cl s i) := ⟨_, rfl⟩
    have hsame : Same (cl s i) c1 := by rw [hc1]; exact same_front out _ i2
    have hcl1 : cl (setCl s i c1) i = c1 := cl_setCl s i c1 hil
    have hlen : 2 ≤ c1.length := by rw [hsame.len]; exact i2
    have hI1 := hI.turned (c := c1) hsame.len fun l hl => (hsame.mem l).1 hl
    have h1 : Ok Φ A (setRow (setCl s i c1) q0 (kept ++ i :: rest)) n T ks := h.setCl (i := i) hil hsame
    have hp1 : Pro (setRow (setCl s i c1) q0 (kept ++ i :: rest)) hd (fun j x => x = out ∧ (j : Int) ∈ i :: rest) := hp.setCl (i := i) hil hsame
    have hLo : Lit n out := by obtain ⟨x, hx, rfl⟩ := hI.isout; exact (hI.good.trl x hx).neg
    have hof := hI.false_
    have hone : rd c1 1 = out := by
      rw [hc1]
      refine front_one i2 ?_
      have hmem : ((i.toNat : Nat) : Int) ∈ row (setRow s q0 (kept ++ i :: rest)) q0 := by
        rw [row_setRow, if_pos rfl, if_pos (by rw [hw]; exact hI.q0lt)]
        simp [Int.toNat_of_nonneg i0]
      obtain ⟨x, y, hxy, e⟩ := h.net.only q0 i.toNat hI.q0lt hmem
      have hT : Two (setRow s q0 (kept ++ i :: rest)) i.toNat := ⟨hil, i2⟩
      have hx : x = out := cd_inj (Two.lits h hT (hxy.mem hT).1).1 hLo (e.symm.trans hI.outq)
      rcases hxy with ⟨e1, _⟩ | ⟨e1, _⟩
      · exact .inl (hx.symm.trans e1)
      · exact .inr (hx.symm.trans e1)
    have hm0 : rd c1 0 ∈ c1 := rd_mem c1 0 (by omega) (by omega)
    obtain ⟨L0, Z0⟩ := i3 _ ((hsame.mem _).1 hm0)
    have hT1 : Two (setRow (setCl s i c1) q0 (kept ++ i :: rest)) i.toNat := ⟨by show i.toNat < (s.clauses.set _ _).length; rw [List.length_set]; exact hil, by show 2 ≤ (cl (setCl s i c1) i).length; rw [hcl1]; exact hlen⟩
    by_cases c1t : ofv s (rd c1 0) = 1
    · have e : inner q0 out (i :: rest) s kept = inner q0 out rest (setCl s i c1) (kept ++ [i]) := by simp only [inner, ← hc1, if_pos c1t]
      have hk : kept ++ i :: rest = kept ++ [i] ++ rest := by simp
      rw [hk] at h1 hp1
      rw [e]
      have hp2 : Pro (setRow (setCl s i c1) q0 (kept ++ [i] ++ rest)) hd (fun j x => x = out ∧ (j : Int) ∈ rest) := by
        intro j x y hj hxy hx
        rcases hp1 j x y hj hxy hx with h5 | ⟨h5, h6⟩
        · exact .inl h5
        · rcases List.mem_cons.1 h6 with h7 | h7
          · left
            have hji : j = i.toNat := by omega
            subst hji
            have hcwj : cw (setRow (setCl s i c1) q0 (kept ++ [i] ++ rest)) i.toNat = c1 := hcl1
            rcases hxy with ⟨a, b⟩ | ⟨a, b⟩
            · rw [hcwj] at a
              rw [← a, h5] at c1t
              omega
            · rw [hcwj] at b
              rw [b]
              exact (h1.true_ L0 Z0).1 c1t
          · exact .inr ⟨h5, h7⟩
      obtain ⟨r1, r2, r3, r4, r5⟩ := inner_ok q0 out hd rest (setCl s i c1) (kept ++ [i]) hI1.kept h1 hp2 hh
      exact ⟨r1, (show Ext s (setCl s i c1) from ⟨⟨[], by simp [setCl]⟩, rfl, rfl, by simp [setCl], rfl, rfl, same_setCl hil hsame.len hsame.mem⟩).trans r2, r3, r4, (Steps.turn (.refl s) hil hsame.len hsame.mem).trans r5⟩
    · cases hf : findO s c1 with
      | some k =>
        obtain ⟨k1, k2, k3⟩ := other_spec s c1 _ _ _ hf
        have e : inner q0 out (i :: rest) s kept = inner q0 out rest (pushRow (setCl s i (swp c1 1 k)) (codeL (rd c1 k)).toNat i) kept := by
          conv => lhs; unfold inner
          simp only [← hc1, if_neg c1t, hf]
        rw [e]
        obtain ⟨m1, m2, m3⟩ := Ok.move h1 hI1 (k := k) k1 (by rw [hcl1]; exact k2) (by rw [hcl1]; exact hone) (by rw [hcl1]; exact k3) hp1
        rw [hcl1, setCl_setCl] at m1 m2 m3
        obtain ⟨r1, r2, r3, r4, r5⟩ := inner_ok q0 out hd rest _ kept m3 m1 m2 hh
        exact ⟨r1, (show Ext s (pushRow (setCl s i (swp c1 1 k)) (cd (rd c1 k)) i) from ⟨⟨[], by simp [pushRow, setCl]⟩, rfl, rfl, by simp [pushRow, setCl], rfl, rfl, same_setCl hil (by rw [swp_length, hsame.len]) fun x => ((Mix.swap (a := 0) (b := c1.length) c1 1 k (by omega) (by omega) (by omega) k2 (Nat.le_refl _)).perm.mem_iff).trans (hsame.mem x)⟩).trans r2, r3, r4, (Steps.push _ _ (Steps.turn (.refl s) hil (by rw [swp_length, hsame.len]) fun x => ((Mix.swap (a := 0) (b := c1.length) c1 1 k (by omega) (by omega) (by omega) k2 (Nat.le_refl _)).perm.mem_iff).trans (hsame.mem x))).trans r5⟩
      | none =>
        have hall := all_false hlen hone hof hf
        obtain ⟨cΦ, hcΦ, hmΦ⟩ := h1.src i.toNat hT1
        have hcwj : cw (setRow (setCl s i c1) q0 (kept ++ i :: rest)) i.toNat = c1 := hcl1
        rw [hcwj] at hmΦ
        by_cases c1f : ofv s (rd c1 0) = -1
        · have e : inner q0 out (i :: rest) s kept = (setRow (setCl s i c1) q0 (kept ++ i :: rest), some i) := by
            conv => lhs; unfold inner
            simp only [← hc1, if_neg c1t, hf, if_pos c1f]
          rw [e]
          have hcl : ∀ m ∈ c1, -m ∈ s.trail := fun m hm1 => by
            obtain ⟨Lm, Zm⟩ := i3 _ ((hsame.mem _).1 hm1)
            rcases hall m hm1 with h5 | h5
            · exact (h1.false_ Lm Zm).1 (h5 ▸ c1f)
            · exact (h1.false_ Lm Zm).1 h5
          refine ⟨h1, ⟨⟨[], by simp [setRow, setCl]⟩, rfl, rfl, by simp [setRow, setCl], rfl, rfl, same_setCl hil hsame.len hsame.mem⟩, rfl, .inr ⟨i, rfl, i0, ⟨cΦ, hcΦ, fun m hm => hcl m ((hmΦ m).1 hm)⟩, ⟨by show i.toNat < (s.clauses.set _ _).length; rw [List.length_set]; exact hil, by have : cl (setRow (setCl s i c1) q0 (kept ++ i :: rest)) i = c1 := hcl1; rw [this]; exact hlen⟩, fun m hm => hcl m (by have : cl (setRow (setCl s i c1) q0 (kept ++ i :: rest)) i = c1 := hcl1; rwa [this] at hm)⟩, .row _ _ (.turn (.refl s) hil hsame.len hsame.mem)⟩
        · have e : inner q0 out (i :: rest) s kept = inner q0 out rest (setS (setCl s i c1) (rd c1 0) i) (kept ++ [i]) := by
            conv => lhs; unfold inner
            simp only [← hc1, if_neg c1t, hf, if_neg c1f]
          rw [e]
          have hsm := ofv_small (s := s) (n := n) hI.good.value hI.good.small L0
          have h0 : ofv s (rd c1 0) = 0 := by omega
          have hd0 : D Φ A (rd c1 0) := .unit hcΦ ((hmΦ _).2 hm0) fun m hm hne => by
            have hm1 := (hmΦ m).1 hm
            obtain ⟨Lm, Zm⟩ := i3 _ ((hsame.mem _).1 hm1)
            rcases hall m hm1 with h5 | h5
            · exact absurd h5 hne
            · exact h1.sound _ ((h1.false_ Lm Zm).1 h5)
          have hk : kept ++ i :: rest = kept ++ [i] ++ rest := by simp
          rw [hk] at h1 hp1
          have h2 : Ok Φ A (setRow (setS (setCl s i c1) (rd c1 0) i) q0 (kept ++ [i] ++ rest)) n T ks := h1.setS (r := i) L0 Z0 h0 hd0
          have hp2 : Pro (setRow (setS (setCl s i c1) (rd c1 0) i) q0 (kept ++ [i] ++ rest)) hd (fun j x => x = out ∧ (j : Int) ∈ rest) := by
            have hp3 : Pro (setRow (setS (setCl s i c1) (rd c1 0) i) q0 (kept ++ [i] ++ rest)) hd (fun j x => x = out ∧ (j : Int) ∈ i :: rest) := hp1.setS (l := rd c1 0) (r := i) hh
            intro j x y hj hxy hx
            rcases hp3 j x y hj hxy hx with h5 | ⟨h5, h6⟩
            · exact .inl h5
            · rcases List.mem_cons.1 h6 with h7 | h7
              · left
                have hji : j = i.toNat := by omega
                subst hji
                have hcwj : cw (setRow (setS (setCl s i c1) (rd c1 0) i) q0 (kept ++ [i] ++ rest)) i.toNat = c1 := hcl1
                rcases hxy with ⟨a, b⟩ | ⟨a, b⟩
                · rw [hcwj] at a
                  rw [← a, h5, hof] at c1f
                  omega
                · rw [hcwj] at b
                  rw [b]
                  show rd c1 0 ∈ s.trail ++ [rd c1 0]
                  simp
              · exact .inr ⟨h5, h7⟩
          obtain ⟨r1, r2, r3, r4, r5⟩ := inner_ok q0 out hd rest _ (kept ++ [i]) (hI1.kept.take L0 Z0 h0) h2 hp2 (by show hd ≤ (s.trail ++ [rd c1 0]).length; rw [List.length_append]; omega)
          exact ⟨r1, (show Ext s (setS (setCl s i c1) (rd c1 0) i) from ⟨⟨[rd c1 0], by simp [setS, setCl]⟩, rfl, rfl, by simp [setS, setCl], rfl, rfl, same_setCl hil hsame.len hsame.mem⟩).trans r2, r3, r4, (Steps.unit (l := rd c1 0) (i := i) (Steps.turn (.refl s) hil hsame.len hsame.mem) i0 (by show i.toNat < (s.clauses.set _ _).length; rw [List.length_set]; exact hil) (by rw [hcl1]; exact hm0) L0 Z0 h0 fun m hm => by
            rw [hcl1] at hm
            obtain ⟨Lm, Zm⟩ := i3 _ ((hsame.mem _).1 hm)
            rcases hall m hm with h5 | h5
            · exact .inl h5
            · exact .inr ((h1.false_ Lm Zm).1 h5)).trans r5⟩
end
end Go.Proofs.Ytcahhbcehnbdkaa.Sv

/- Propagation as a law: to the end, and back again. -/
namespace Go.Proofs.Ytcahhbcehnbdkaa.Sv
open Go.RowKit Go.Proofs.YtcahhbcehnbdkaaW.PrintWords

section
variable {Φ : List (List Int)} {A : Int → Prop} {s : S} {n T : Nat} {ks : List Nat}
theorem setRow_self (s : S) (q : Nat) : setRow s q (s.watch.getD q []) = s := by
  unfold setRow
  have : s.watch.set q (s.watch.getD q []) = s.watch := by
    apply List.ext_getElem?
    intro j
    rw [List.getElem?_set]
    split
    · rename_i e; subst e
      rw [List.getD_eq_getElem?_getD]
      split
      · rename_i h; rw [List.getElem?_eq_getElem h]; rfl
      · rename_i h; rw [List.getElem?_eq_none (by omega)]
    · rfl
  rw [this]
theorem Ok.head (h : Ok Φ A s n T ks) {k : Int} (h0 : 0 ≤ k) (h1 : k ≤ s.trail.length) : Ok Φ A { s with head := k } n T ks :=
  { h with good := { h.good with hd0 := h0, hd1 := h1 }, net := ⟨h.net.has, h.net.only, h.net.nd, h.net.cnd⟩ }
theorem next_okS (h : Ok Φ A s n T ks) (hp : Pro s s.head.toNat fun _ _ => False) (hlt : s.head < s.trail.length) :
    Ok Φ A (nextS s).1 n T ks ∧ Ext s (nextS s).1 ∧ (nextS s).1.head = s.head + 1 ∧ (((nextS s).2 = none ∧ Pro (nextS s).1 (s.head.toNat + 1) fun _ _ => False) ∨ ∃ i, (nextS s).2 = some i ∧ 0 ≤ i ∧ Hit Φ (nextS s).1 ∧ Clash (nextS s).1 i) ∧ Steps n s (nextS s).1 := by
  have h0 := h.good.hd0
  have hmem : rd s.trail s.head ∈ s.trail := rd_mem _ _ h0 hlt
  have hLo : Lit n (outL s) := (h.good.trl _ hmem).neg
  have hq : qOf s < 2 * n := by have := hLo.code; unfold qOf; omega
  have h1 : Ok Φ A { s with head := s.head + 1 } n T ks := h.head (by omega) (by omega)
  have e : setRow { s with head := s.head + 1 } (qOf s) ([] ++ s.watch.getD (qOf s) []) = { s with head := s.head + 1 } := setRow_self { s with head := s.head + 1 } (qOf s)
  have hI : Inner { s with head := s.head + 1 } n T (qOf s) (outL s) [] (s.watch.getD (qOf s) []) := ⟨by rw [e]; exact h1.good, hq, rfl, ⟨_, hmem, rfl⟩⟩
  have hp1 : Pro { s with head := s.head + 1 } (s.head.toNat + 1) fun j x => x = outL s ∧ (j : Int) ∈ s.watch.getD (qOf s) [] := by
    intro j x y hj hxy hx
    have hx' : -x ∈ s.trail.take (s.head.toNat + 1) := hx
    rw [List.take_add_one] at hx'
    rcases List.mem_append.1 hx' with h5 | h5
    · exact (hp j x y hj hxy h5).elim .inl False.elim
    · right
      have h6 : -x = rd s.trail s.head := by
        rw [rd_of_lt _ _ h0 hlt]
        have hlt' : s.head.toNat < s.trail.length := by omega
        rw [List.getElem?_eq_getElem hlt'] at h5
        simpa using h5
      have h7 : x = outL s := by unfold outL; omega
      refine ⟨h7, ?_⟩
      have := h.net.has j x y hj hxy
      rw [h7] at this
      exact this
  obtain ⟨r1, r2, r3, r4, r5⟩ := inner_ok (Φ := Φ) (A := A) (ks := ks) (qOf s) (outL s) (s.head.toNat + 1) (s.watch.getD (qOf s) []) { s with head := s.head + 1 } [] hI (by rw [e]; exact h1) (by rw [e]; exact hp1) (by show s.head.toNat + 1 ≤ s.trail.length; omega)
  exact ⟨r1, (show Ext s { s with head := s.head + 1 } from ⟨⟨[], by simp⟩, rfl, rfl, rfl, rfl, rfl, fun _ => ⟨.rfl, fun _ => .rfl⟩⟩).trans r2, r3, r4, (Steps.head _ (.refl s)).trans r5⟩
theorem prop_okS : ∀ (f : Nat) (s : S), n + 1 ≤ f + s.head.toNat → Ok Φ A s n T ks → Pro s s.head.toNat (fun _ _ => False) →
    Ok Φ A (prop f s).1 n T ks ∧ Ext s (prop f s).1 ∧ (((prop f s).2 = -1 ∧ (prop f s).1.head = (prop f s).1.trail.length ∧ Pro (prop f s).1 (prop f s).1.trail.length fun _ _ => False) ∨ (0 ≤ (prop f s).2 ∧ Hit Φ (prop f s).1 ∧ Clash (prop f s).1 (prop f s).2)) ∧ Steps n s (prop f s).1
  | 0, s, hf, h, hp => by
    have := h.good.hd1
    have := h.good.tr
    omega
  | f + 1, s, hf, h, hp => by
    unfold prop
    have hd0 := h.good.hd0
    have hd1 := h.good.hd1
    by_cases hlt : s.head < s.trail.length
    · rw [if_pos hlt]
      obtain ⟨r1, r2, r3, r4, rs⟩ := next_okS h hp hlt
      rcases r4 with ⟨e, r4⟩ | ⟨i, e, r4, r5, r6⟩
      · rw [e]
        have e3 : s.head.toNat + 1 = (nextS s).1.head.toNat := by rw [r3]; omega
        rw [e3] at r4
        obtain ⟨t1, t2, t3, t4⟩ := prop_okS f (nextS s).1 (by omega) r1 r4
        exact ⟨t1, r2.trans t2, t3, rs.trans t4⟩
      · rw [e]
        exact ⟨r1, r2, .inr ⟨r4, r5, r6⟩, rs⟩
    · rw [if_neg hlt]
      have e : s.head = s.trail.length := by omega
      have e2 : s.head.toNat = s.trail.length := by omega
      rw [e2] at hp
      exact ⟨h, Ext.refl s, .inl ⟨rfl, e, hp⟩, .refl s⟩
theorem prop_ok (f : Nat) (s : S) (hf : n + 1 ≤ f + s.head.toNat) (h : Ok Φ A s n T ks) (hp : Pro s s.head.toNat fun _ _ => False) :
    Ok Φ A (prop f s).1 n T ks ∧ Ext s (prop f s).1 ∧ (((prop f s).2 = -1 ∧ (prop f s).1.head = (prop f s).1.trail.length ∧ Pro (prop f s).1 (prop f s).1.trail.length fun _ _ => False) ∨ (0 ≤ (prop f s).2 ∧ Hit Φ (prop f s).1)) := by
  obtain ⟨h1, h2, h3, _⟩ := prop_okS f s hf h hp
  exact ⟨h1, h2, h3.imp id fun h => ⟨h.1, h.2.1⟩⟩

/-! ### What is closed tells all -/
def Taut (c : List Int) : Prop := ∃ l ∈ c, -l ∈ c
def Cov (Φ : List (List Int)) (s : S) (k : Nat) : Prop := ∀ c ∈ Φ, Taut c ∨ (∃ l ∈ c, l ∈ s.trail.take k) ∨ ∃ j, Two s j ∧ ∀ x, x ∈ c ↔ x ∈ cw s j
theorem Hit.conf (h : Ok Φ A s n T ks) (hh : Hit Φ s) : Conf Φ A := by
  obtain ⟨c, h1, h2⟩ := hh
  exact ⟨c, h1, fun m hm => h.sound _ (h2 m hm)⟩
theorem wt_both (s : S) (j : Nat) : Wt s j (rd (cw s j) 0) (rd (cw s j) 1) := .inl ⟨rfl, rfl⟩
theorem closed_all {Ψ : List (List Int)} {A' : Int → Prop} (h : Ok Ψ A' s n T ks) (hp : Pro s s.trail.length fun _ _ => False) {k : Nat} (hc : Cov Φ s k) (hz : ∀ c ∈ Φ, ∀ l ∈ c, l ≠ 0) (hA : ∀ l, A l → l ∈ s.trail) : (∀ l, D Φ A l → l ∈ s.trail) ∧ ¬ Conf Φ A := by
  have hp' : ∀ j x y, Two s j → Wt s j x y → -x ∈ s.trail → y ∈ s.trail := fun j x y a b c => (hp j x y a b (by rwa [List.take_length])).elim id False.elim
  have main : ∀ l, D Φ A l → l ∈ s.trail := fun l hl => by
    induction hl with
    | base h1 => exact hA _ h1
    | @unit c l h1 h2 _ ih =>
      rcases hc c h1 with ⟨a, a1, a2⟩ | ⟨l0, b1, b2⟩ | ⟨j, c1, c2⟩
      · by_cases e1 : a = l
        · subst e1
          have := ih (-a) a2 (by have := hz c h1 a a1; omega)
          rwa [Int.neg_neg] at this
        · have t1 := ih a a1 e1
          by_cases e2 : -a = l
          · rw [← e2]; exact t1
          · have t2 := ih (-a) a2 e2
            rw [Int.neg_neg] at t2
            exact absurd t1 (h.apart t2)
      · have b2 := List.mem_of_mem_take b2
        by_cases e : l0 = l
        · exact e ▸ b2
        · exact absurd (ih l0 b1 e) (h.apart b2)
      · have hw := wt_both s j
        have hne := hw.ne h.net c1
        obtain ⟨m0, m1⟩ := hw.mem c1
        have m0 := (c2 _).2 m0
        have m1 := (c2 _).2 m1
        by_cases e : rd (cw s j) 0 = l
        · have t1 := ih _ m1 (fun e' => hne (e.trans e'.symm))
          rw [← e]
          exact hp' j _ _ c1 hw.symm t1
        · have t0 := ih _ m0 e
          have t2 := hp' j _ _ c1 hw t0
          by_cases e' : rd (cw s j) 1 = l
          · rw [← e']; exact t2
          · exact absurd (ih _ m1 e') (h.apart t2)
  refine ⟨main, fun ⟨c, h1, h2⟩ => ?_⟩
  rcases hc c h1 with ⟨a, a1, a2⟩ | ⟨l0, b1, b2⟩ | ⟨j, c1, c2⟩
  · have t1 := main _ (h2 a a1)
    have t2 := main _ (h2 (-a) a2)
    rw [Int.neg_neg] at t2
    exact h.apart t2 t1
  · exact h.apart (List.mem_of_mem_take b2) (main _ (h2 l0 b1))
  · have hw := wt_both s j
    obtain ⟨m0, m1⟩ := hw.mem c1
    have t0 := main _ (h2 _ ((c2 _).2 m0))
    have t1 := main _ (h2 _ ((c2 _).2 m1))
    exact h.apart (hp' j _ _ c1 hw t0) t1

/-! ### Back again -/
theorem ofv_at (s : S) (l : Int) : ofv s l = if l < 0 then -(s.value.getD (av l).toNat 0) else s.value.getD (av l).toNat 0 := by
  unfold ofv rd
  split
  · rw [show (-l).toNat = (av l).toNat by unfold av; omega]
  · rw [show l.toNat = (av l).toNat by unfold av; omega]
theorem zeros_set_zero {l : List Int} {i : Nat} (hi : i < l.length) (h0 : l[i] ≠ 0) : zeros (l.set i 0) = zeros l + 1 := by
  induction l generalizing i with
  | nil => simp at hi
  | cons a l ih =>
    cases i with
    | zero =>
      simp only [List.getElem_cons_zero] at h0
      simp [zeros, h0]
    | succ i =>
      simp only [List.getElem_cons_succ] at h0
      have := ih (by simpa using hi) h0
      simp only [zeros, List.set_cons_succ, List.filter_cons] at this ⊢
      split <;> simp_all
theorem pop_ok (h : Ok Φ A s n T ks) (ht : s.head < s.trail.length) (hk : ∀ k ∈ ks, k < s.trail.length) : Ok Φ A (popS s) n T ks := by
  have h0 := h.good.hd0
  obtain ⟨z, hz⟩ : ∃ z, z = rd s.trail ((s.trail.length : Int) - 1) := ⟨_, rfl⟩
  have hzm : z ∈ s.trail := by rw [hz]; exact rd_mem _ _ (by omega) (by omega)
  have hzL := h.good.trl z hzm
  have hzz := h.good.nzt z hzm
  have hzt := h.good.tt z hzm
  have hval : (popS s).value = s.value.set (av z).toNat 0 := by unfold popS; rw [← hz]
  have htr : (popS s).trail = s.trail.take (s.trail.length - 1) := rfl
  have hsplit : s.trail = s.trail.take (s.trail.length - 1) ++ [z] := by
    have e := (List.take_append_drop (s.trail.length - 1) s.trail).symm
    rw [drop_cons _ _ (by omega), List.drop_eq_nil_of_le (by omega)] at e
    have e2 : rd s.trail ((s.trail.length - 1 : Nat) : Int) = z := by rw [hz]; congr 1; omega
    rw [e2] at e
    exact e
  have hnd : ∀ x ∈ s.trail.take (s.trail.length - 1), (av x).toNat ≠ (av z).toNat := fun x hx e => by
    have hn := h.tnd
    rw [hsplit, List.map_append, List.nodup_append] at hn
    refine hn.2.2 (av x) (List.mem_map.2 ⟨x, hx, rfl⟩) (av z) (by simp) ?_
    have h1 := h.good.trl x (List.mem_of_mem_take hx)
    unfold av at e ⊢
    omega
  have hlt : (av z).toNat < s.value.length := by rw [h.good.value]; exact av_lt hzL
  have ho : ∀ x, (av x).toNat ≠ (av z).toNat → ofv (popS s) x = ofv s x := fun x hx => by
    rw [ofv_at, ofv_at, hval, getD_set_other hx.symm]
  have ho2 : ∀ x, (av x).toNat = (av z).toNat → ofv (popS s) x = 0 := fun x hx => by
    rw [ofv_at, hval, hx, getD_set_self hlt]; simp
  have hzv : s.value[(av z).toNat] ≠ 0 := by
    have := ofv_at s z
    rw [hzt, List.getD_eq_getElem?_getD, List.getElem?_eq_getElem hlt] at this
    simp only [Option.getD_some] at this
    split at this <;> omega
  refine ⟨{ value := ?_, level := h.good.level, reason := h.good.reason, watch := h.good.watch, small := ?_, nmax := h.good.nmax, cls := h.good.cls, cl := h.good.cl, wt := h.good.wt, ws := h.good.ws, tmax := h.good.tmax, tr := ?_, trl := fun l hl => h.good.trl l (List.mem_of_mem_take hl), hd0 := h0, hd1 := ?_, nzc := h.good.nzc, nzt := fun l hl => h.good.nzt l (List.mem_of_mem_take hl), tt := fun l hl => ?_ }, ⟨h.net.has, h.net.only, h.net.nd, h.net.cnd⟩, ?_, fun l hl hz0 hv => ?_, fun l hl => h.sound l (List.mem_of_mem_take hl), h.src, fun k hk' => ?_, fun k hk' j x y hj hxy hx => ?_⟩
  · rw [hval, List.length_set]; exact h.good.value
  · rw [hval]
    intro x hx
    rcases List.mem_or_eq_of_mem_set hx with h1 | h1
    · exact h.good.small x h1
    · rw [h1]; omega
  · rw [hval, htr, zeros_set_zero hlt hzv, List.length_take]
    have := h.good.tr
    omega
  · rw [htr, List.length_take]
    show s.head ≤ _
    omega
  · rw [ho l (hnd l hl)]
    exact h.good.tt l (List.mem_of_mem_take hl)
  · rw [htr, List.map_take]
    exact h.tnd.sublist (List.take_sublist _ _)
  · by_cases e : (av l).toNat = (av z).toNat
    · rw [ho2 l e] at hv; omega
    · rw [ho l e] at hv
      have hm := h.only l hl hz0 hv
      rw [hsplit] at hm
      rcases List.mem_append.1 hm with h1 | h1
      · exact h1
      · rw [List.mem_singleton.1 h1] at e; exact absurd rfl e
  · have := hk k hk'
    rw [htr, List.length_take]; omega
  · have := hk k hk'
    have e : (popS s).trail.take k = s.trail.take k := by rw [htr, List.take_take, Nat.min_eq_left (by omega)]
    rw [e] at hx ⊢
    exact h.wat k hk' j x y hj hxy hx
end
end Go.Proofs.Ytcahhbcehnbdkaa.Sv

/- Propagation as a law: back to a level; does a clause follow? -/
namespace Go.Proofs.Ytcahhbcehnbdkaa.Sv
open Go.RowKit Go.Proofs.YtcahhbcehnbdkaaW.PrintWords

section
variable {Φ : List (List Int)} {A A' : Int → Prop} {s : S} {n T : Nat} {ks : List Nat}
theorem Ok.marks (h : Ok Φ A s n T ks) (m : List Int) : Ok Φ A { s with marks := m } n T ks :=
  { h with good := { h.good with }, net := ⟨h.net.has, h.net.only, h.net.nd, h.net.cnd⟩ }
theorem Ok.assuming (h : Ok Φ A s n T ks) (hs : ∀ l ∈ s.trail, D Φ A' l) : Ok Φ A' s n T ks := { h with sound := hs }
theorem Ok.levels (h : Ok Φ A s n T ks) {ks' : List Nat} (hk : ∀ k ∈ ks', k ∈ ks ∨ (k = s.trail.length ∧ Pro s s.trail.length fun _ _ => False)) : Ok Φ A s n T ks' :=
  { h with
    kle := fun k hk' => (hk k hk').elim (h.kle k) fun e => Nat.le_of_eq e.1
    wat := fun k hk' => (hk k hk').elim (h.wat k) fun e => by
      obtain ⟨rfl, hp⟩ := e
      intro j x y hj hw hx
      rw [List.take_length]
      exact (hp j x y hj hw hx).elim id False.elim }
theorem undoTo_ok : ∀ (m : Nat) (s : S), Ok Φ A s n T ks → s.head + m ≤ s.trail.length → (∀ k ∈ ks, k + m ≤ s.trail.length) → Ok Φ A (undoTo s m) n T ks ∧ (undoTo s m).trail = s.trail.take (s.trail.length - m) ∧ (undoTo s m).clauses = s.clauses ∧ (undoTo s m).watch = s.watch ∧ (undoTo s m).atoms = s.atoms ∧ (undoTo s m).proof = s.proof ∧ (undoTo s m).active = s.active
  | 0, s, h, _, _ => ⟨h, by rw [Nat.sub_zero, List.take_length]; rfl, rfl, rfl, rfl, rfl, rfl⟩
  | m + 1, s, h, hh, hk => by
    have h1 := pop_ok h (by omega) fun k hk' => by have := hk k hk'; omega
    have e0 : (popS s).trail = s.trail.take (s.trail.length - 1) := rfl
    have hl : (popS s).trail.length = s.trail.length - 1 := by rw [e0, List.length_take]; omega
    obtain ⟨r1, r2, r3, r4, r5, r6, r7⟩ := undoTo_ok m (popS s) h1 (by rw [hl]; show s.head + m ≤ _; omega) fun k hk' => by have := hk k hk'; omega
    unfold undoTo
    refine ⟨r1, ?_, r3, r4, r5, r6, r7⟩
    rw [r2, hl, e0, List.take_take]
    congr 1
    omega
theorem undoTo_head (k : Int) : ∀ (m : Nat) (s : S), undoTo { s with head := k } m = { undoTo s m with head := k }
  | 0, s => rfl
  | m + 1, s => undoTo_head k m (popS s)
theorem undo_ok (h : Ok Φ A s n T ks) {lev : Int} {k : Nat} (hm : rd s.marks lev = k) (hk : k ≤ s.trail.length) (hks : ∀ k' ∈ ks, k' ≤ k) (hs : ∀ l ∈ s.trail.take k, D Φ A' l) :
    Ok Φ A' (undoS s lev) n T ks ∧ (undoS s lev).trail = s.trail.take k ∧ (undoS s lev).clauses = s.clauses ∧ (undoS s lev).head = (undoS s lev).trail.length ∧ (undoS s lev).marks = s.marks.take lev.toNat ∧ (k ∈ ks → Pro (undoS s lev) (undoS s lev).trail.length fun _ _ => False) ∧
      (undoS s lev).atoms = s.atoms ∧ (undoS s lev).proof = s.proof ∧ (undoS s lev).active = s.active ∧ (undoS s lev).watch = s.watch := by
  have h0 := h.head (k := 0) (by omega) (by omega)
  obtain ⟨r1, r2, r3, r4, r5, r6, r7⟩ := undoTo_ok (s.trail.length - k) _ h0 (by show (0 : Int) + ((s.trail.length - k : Nat) : Int) ≤ s.trail.length; omega) fun k' hk' => by have := hks k' hk'; show k' + (s.trail.length - k) ≤ s.trail.length; omega
  have e : undoS s lev = { undoTo { s with head := 0 } (s.trail.length - k) with marks := s.marks.take lev.toNat, head := ((undoTo { s with head := 0 } (s.trail.length - k)).trail.length : Int) } := by
    rw [undoTo_head]
    unfold undoS
    rw [hm, Int.toNat_natCast]
  have ht : (undoS s lev).trail = s.trail.take k := by
    rw [e]
    show (undoTo { s with head := 0 } (s.trail.length - k)).trail = _
    rw [r2]
    show s.trail.take (s.trail.length - (s.trail.length - k)) = _
    congr 1
    omega
  have hlen : (undoTo { s with head := 0 } (s.trail.length - k)).trail.length = k := by
    rw [r2]
    show (s.trail.take (s.trail.length - (s.trail.length - k))).length = k
    rw [List.length_take]; omega
  have hok : Ok Φ A' (undoS s lev) n T ks := by
    rw [e]
    refine (((r1.head (k := ((undoTo { s with head := 0 } (s.trail.length - k)).trail.length : Int)) (by omega) (by omega)).marks (s.marks.take lev.toNat))).assuming fun l hl => hs l ?_
    rw [e] at ht
    rw [← ht]
    exact hl
  refine ⟨hok, ht, by rw [e]; exact r3, by rw [e], by rw [e], fun hkk => ?_, by rw [e]; exact r5, by rw [e]; exact r6, by rw [e]; exact r7, by rw [e]; exact r4⟩
  intro j x y hj hw hx
  left
  have hl2 : (undoS s lev).trail.length = k := by rw [e]; exact hlen
  rw [hl2] at hx
  exact List.mem_of_mem_take (hok.wat k hkk j x y hj hw hx)

/-! ### Assumptions -/
def markS (s : S) : S := { s with marks := s.marks ++ [(s.trail.length : Int)] }
def assume : S → List Int → S × Bool
  | s, [] => (s, false)
  | s, l :: r => if ofv s l = 1 then (s, true) else assume (if ofv s l = 0 then setS s (-l) (-1) else s) r
def followsS (n : Nat) (s : S) (c : List Int) : S × Bool :=
  if (assume (markS s) c).2 = true then (undoS (assume (markS s) c).1 0, true)
  else (undoS (prop (n + 1 - (assume (markS s) c).1.head.toNat) (assume (markS s) c).1).1 0, decide (0 ≤ (prop (n + 1 - (assume (markS s) c).1.head.toNat) (assume (markS s) c).1).2))

theorem assume_ok (hcs : ∀ l, A l → Lit n l ∧ l ≠ 0) : ∀ (c : List Int) (s : S), Ok Φ A s n T ks → Pro s s.head.toNat (fun _ _ => False) → (∀ l ∈ c, A (-l)) →
    Ok Φ A (assume s c).1 n T ks ∧ Pro (assume s c).1 (assume s c).1.head.toNat (fun _ _ => False) ∧ Ext s (assume s c).1 ∧ (assume s c).1.head = s.head ∧ ((assume s c).2 = true → ∃ l ∈ c, l ∈ (assume s c).1.trail) ∧ ((assume s c).2 = false → ∀ l ∈ c, -l ∈ (assume s c).1.trail) ∧
      (∀ l ∈ (assume s c).1.trail, l ∈ s.trail ∨ -l ∈ c)
  | [], s, h, hp, _ => ⟨h, hp, Ext.refl s, rfl, fun e => (by cases e), fun _ _ hl => (by cases hl), fun _ hl => .inl hl⟩
  | l :: r, s, h, hp, hA => by
    obtain ⟨hL, hz⟩ := hcs _ (hA l (.head _))
    have hL' : Lit n l := by have := hL.neg; rwa [Int.neg_neg] at this
    have hz' : l ≠ 0 := by omega
    have hsm := ofv_small h.good.value h.good.small hL'
    unfold assume
    by_cases c1 : ofv s l = 1
    · rw [if_pos c1]
      exact ⟨h, hp, Ext.refl s, rfl, fun _ => ⟨l, .head _, (h.true_ hL' hz').1 c1⟩, fun e => (by cases e), fun _ hl => .inl hl⟩
    · rw [if_neg c1]
      have hd1 := h.good.hd1
      have hd0 := h.good.hd0
      obtain ⟨s1, hs1⟩ : ∃ s1, s1 = if ofv s l = 0 then setS s (-l) (-1) else s := ⟨_, rfl⟩
      rw [← hs1]
      have key : Ok Φ A s1 n T ks ∧ Pro s1 s1.head.toNat (fun _ _ => False) ∧ Ext s s1 ∧ s1.head = s.head ∧ -l ∈ s1.trail ∧ ∀ x ∈ s1.trail, x ∈ s.trail ∨ x = -l := by
        by_cases c0 : ofv s l = 0
        · rw [if_pos c0] at hs1
          subst hs1
          have h1 := h.setS (r := -1) hL hz (by rw [ofv_neg hz', c0]; rfl) (.base (hA l (.head _)))
          refine ⟨h1, hp.setS (by omega), ⟨⟨[-l], rfl⟩, rfl, rfl, rfl, rfl, rfl, fun _ => ⟨.rfl, fun _ => .rfl⟩⟩, rfl, ?_, fun x hx => ?_⟩
          · show -l ∈ s.trail ++ [-l]
            simp
          · have hx' : x ∈ s.trail ++ [-l] := hx
            simpa using hx'
        · rw [if_neg c0] at hs1
          subst hs1
          exact ⟨h, hp, Ext.refl _, rfl, (h.false_ hL' hz').1 (by omega), fun x hx => .inl hx⟩
      obtain ⟨k1, k2, k3, k4, k5, k6⟩ := key
      obtain ⟨r1, r2, r3, r4, r5, r6, r7⟩ := assume_ok hcs r s1 k1 k2 fun x hx => hA x (.tail _ hx)
      refine ⟨r1, r2, k3.trans r3, r4.trans k4, fun e => ?_, fun e x hx => ?_, fun x hx => ?_⟩
      · obtain ⟨x, x1, x2⟩ := r5 e
        exact ⟨x, .tail _ x1, x2⟩
      · rcases List.mem_cons.1 hx with rfl | hx
        · obtain ⟨more, em⟩ := r3.trail
          rw [em]
          exact List.mem_append.2 (.inl k5)
        · exact r6 e x hx
      · rcases r7 x hx with h5 | h5
        · rcases k6 x h5 with h6 | h6
          · exact .inl h6
          · right; rw [h6, Int.neg_neg]; exact .head _
        · exact .inr (.tail _ h5)

/-- A state where nothing is left to do. -/
structure Still (Φ : List (List Int)) (s : S) (n T : Nat) : Prop where
  ok : Ok Φ (fun _ => False) s n T []
  head : s.head = s.trail.length
  pro : Pro s s.trail.length fun _ _ => False
  cov : Cov Φ s s.trail.length
  nz : ∀ c ∈ Φ, ∀ l ∈ c, l ≠ 0
  marks : s.marks = []
theorem Cov.ext {r : S} {k : Nat} (h : Cov Φ s k) (e : ∀ j, (Two r j ↔ Two s j) ∧ ∀ x, x ∈ cw r j ↔ x ∈ cw s j) (ht : r.trail.take k = s.trail.take k) : Cov Φ r k := fun c hc => by
  rcases h c hc with h1 | ⟨l, h1, h2⟩ | ⟨j, h1, h2⟩
  · exact .inl h1
  · exact .inr (.inl ⟨l, h1, by rw [ht]; exact h2⟩)
  · exact .inr (.inr ⟨j, (e j).1.2 h1, fun x => (h2 x).trans ((e j).2 x).symm⟩)
theorem follows_law (h : Still Φ s n T) {c : List Int} (hc : ∀ l ∈ c, Lit n l ∧ l ≠ 0) :
    Still Φ (followsS n s c).1 n T ∧ ((followsS n s c).2 = true ↔ Taut c ∨ Conf Φ fun l => -l ∈ c) ∧ (followsS n s c).1.trail = s.trail ∧ (followsS n s c).1.clauses.length = s.clauses.length := by
  obtain ⟨A, hA⟩ : ∃ A : Int → Prop, A = fun l => -l ∈ c := ⟨_, rfl⟩
  have hAiff : ∀ l, A l ↔ -l ∈ c := fun l => by rw [hA]
  rw [← hA]
  have h1 : Ok Φ A (markS s) n T [s.trail.length] := (((h.ok.marks (s.marks ++ [(s.trail.length : Int)])).assuming fun l hl => (h.ok.sound l hl).mono (fun _ h => h) fun _ h => h.elim).levels fun k hk => .inr ⟨List.mem_singleton.1 hk, h.pro⟩)
  have hhd : (markS s).head.toNat = s.trail.length := by show s.head.toNat = _; rw [h.head]; rfl
  have hcs : ∀ l, A l → Lit n l ∧ l ≠ 0 := fun l hl => by
    have := hc _ ((hAiff l).1 hl)
    exact ⟨by have := this.1.neg; rwa [Int.neg_neg] at this, by omega⟩
  obtain ⟨a1, a2, a3, a4, a5, a6, a7⟩ := assume_ok (Φ := Φ) (A := A) hcs c (markS s) h1 (by rw [hhd]; exact h.pro) fun l hl => (hAiff _).2 (by rwa [Int.neg_neg])
  -- what any state behind the mark gives, undone
  have back : ∀ r : S, Ok Φ A r n T [s.trail.length] → Ext (markS s) r → Still Φ (undoS r 0) n T ∧ (undoS r 0).trail = s.trail ∧ (undoS r 0).clauses.length = s.clauses.length := fun r hr he => by
    obtain ⟨more, em⟩ := he.trail
    have em : r.trail = s.trail ++ more := em
    have hmk : r.marks = [(s.trail.length : Int)] := by rw [he.marks]; show s.marks ++ _ = _; rw [h.marks]; rfl
    have htk : r.trail.take s.trail.length = s.trail := by rw [em, List.take_left']; rfl
    obtain ⟨u1, u2, u3, u4, u5, u6, u7, u8, u9, u10⟩ := undo_ok (A' := fun _ => False) hr (lev := 0) (k := s.trail.length) (by rw [hmk]; rfl) (by rw [em]; simp) (fun k hk => by rw [List.mem_singleton.1 hk]; exact Nat.le_refl _) (fun l hl => h.ok.sound l (by rwa [htk] at hl))
    rw [htk] at u2
    have hcw : ∀ j, (Two (undoS r 0) j ↔ Two s j) ∧ ∀ x, x ∈ cw (undoS r 0) j ↔ x ∈ cw s j := fun j => by
      have e := he.same j
      unfold Two cw at e ⊢
      rw [u3]
      exact e
    refine ⟨⟨u1.levels fun k hk => (by cases hk), u4, u6 (by simp), ?_, h.nz, by rw [u5]; rfl⟩, u2, by rw [u3]; exact he.nclauses⟩
    rw [u2]
    exact h.cov.ext hcw (by rw [u2])
  unfold followsS
  by_cases hb : (assume (markS s) c).2 = true
  · rw [if_pos hb]
    obtain ⟨b1, b2⟩ := back _ a1 a3
    refine ⟨b1, ⟨fun _ => ?_, fun _ => rfl⟩, b2⟩
    obtain ⟨l, l1, l2⟩ := a5 hb
    rcases a7 l l2 with h5 | h5
    · right
      cases h.ok.sound l h5 with
      | base h6 => exact h6.elim
      | @unit c0 _ q1 q2 q3 =>
        refine ⟨c0, q1, fun m hm => ?_⟩
        by_cases e : m = l
        · rw [e]; exact .base ((hAiff _).2 (by rwa [Int.neg_neg]))
        · exact (q3 m hm e).mono (fun _ h => h) fun _ h => h.elim
    · exact .inl ⟨l, l1, h5⟩
  · rw [if_neg hb]
    have hb' : (assume (markS s) c).2 = false := by simpa using hb
    have hd0 := a1.good.hd0
    obtain ⟨p1, p2, p3⟩ := prop_ok (Φ := Φ) (A := A) (n + 1 - (assume (markS s) c).1.head.toNat) (assume (markS s) c).1 (by have := a1.good.hd1; have := a1.good.tr; omega) a1 a2
    obtain ⟨b1, b2⟩ := back _ p1 (a3.trans p2)
    refine ⟨b1, ?_, b2⟩
    rw [decide_eq_true_eq]
    rcases p3 with ⟨e, p4, p5⟩ | ⟨p4, p5⟩
    · rw [e]
      refine ⟨fun h => absurd h (by decide), fun hh => ?_⟩
      exfalso
      obtain ⟨more, em⟩ := (a3.trans p2).trail
      have em : (prop (n + 1 - (assume (markS s) c).1.head.toNat) (assume (markS s) c).1).1.trail = s.trail ++ more := em
      have hcov := h.cov.ext ((a3.trans p2).same) (by rw [em, List.take_left', List.take_length]; rfl)
      obtain ⟨m2, em2⟩ := p2.trail
      have hin : ∀ l, A l → l ∈ (prop (n + 1 - (assume (markS s) c).1.head.toNat) (assume (markS s) c).1).1.trail := fun l hl => by
        have := a6 hb' (-l) ((hAiff l).1 hl)
        rw [Int.neg_neg] at this
        rw [em2]
        exact List.mem_append.2 (.inl this)
      obtain ⟨q1, q2⟩ := closed_all p1 p5 hcov h.nz hin
      rcases hh with ⟨l, l1, l2⟩ | hh
      · have x1 := hin (-l) ((hAiff _).2 (by rwa [Int.neg_neg]))
        have x2 := hin l ((hAiff _).2 l2)
        exact p1.apart x2 x1
      · exact q2 hh
    · exact ⟨fun _ => .inr (p5.conf p1), fun _ => p4⟩
end
end Go.Proofs.Ytcahhbcehnbdkaa.Sv

/- Walk of (*search).propagate. -/
namespace Go.Proofs.Ytcahhbcehnbdkaa.Sv
open Go.RowKit Go.Proofs.YtcahhbcehnbdkaaW.PrintWords Go.Proofs.YtcahhbcehnbdkaaW.PrintLast Go.Proofs.Ytcahhbcehnbdkaa.Eng

section
variable {w w1 : World} {B g : Nat} {s s' : S} {V : Lay}
theorem drop_rd (old kept : List Int) (m : Nat) (hk : kept.length ≤ m) (hm : m < old.length) : rd (kept ++ old.drop kept.length) m = rd old m := by
  unfold rd
  simp only [Int.toNat_natCast, List.getD_eq_getElem?_getD]
  rw [List.getElem?_append_right hk, List.getElem?_drop]
  congr 2
  omega
theorem set_kept (old kept : List Int) (x : Int) (h : kept.length < old.length) : (kept ++ old.drop kept.length).set kept.length x = (kept ++ [x]) ++ old.drop (kept ++ [x]).length := by
  rw [List.set_append_right _ _ (Nat.le_refl _), Nat.sub_self, drop_cons old kept.length h]
  simp
theorem Srch.cl_form (h : Srch w B g s V) {i : Int} (h0 : 0 ≤ i) (h1 : i < s.clauses.length) (h2 : 2 ≤ (cl s i).length) : ∃ b cap, V (.clause i.toNat) = .slice (some ⟨b, 0, none⟩) (cl s i).length cap ∧ (cl s i).length ≤ cap ∧ cap ≤ 9223372036854775807 ∧ (∀ k : Int, 0 ≤ k → k < (cl s i).length → w.cell? ⟨b, k.toNat, none⟩ = some (.int .i64 (rd (cl s i) k))) := by
  have e : (C s V (.clause i.toNat)).length = (cl s i).length := by simp [C, nums, cl]
  obtain ⟨b, cap, hv, hc, hm⟩ := h.formOf (.clause i.toNat) (cl s i).length e (by omega)
  exact ⟨b, cap, hv, hc, hm, fun k k0 k1 => h.cell _ hv k.toNat (by simp only [C]; exact nums_at .i64 (cl s i) k k0 k1)⟩

/-- Two literals of a clause change places. -/
theorem Srch.swap (h : Srch w B g s V) {i : Int} {b cap : Nat} (hi : i.toNat < s.clauses.length) (hv : V (.clause i.toNat) = .slice (some ⟨b, 0, none⟩) (cl s i).length cap) {p q : Int} (hp0 : 0 ≤ p) (hp : p < (cl s i).length) (hq0 : 0 ≤ q) (hq : q < (cl s i).length) :
    Srch ((w.setCell ⟨b, p.toNat, none⟩ (.int .i64 (rd (cl s i) q))).setCell ⟨b, q.toNat, none⟩ (.int .i64 (rd (cl s i) p))) B g (setCl s i (swp (cl s i) p q)) V ∧
      Goes g V w V ((w.setCell ⟨b, p.toNat, none⟩ (.int .i64 (rd (cl s i) q))).setCell ⟨b, q.toNat, none⟩ (.int .i64 (rd (cl s i) p))) ∧
      Srch (w.setCell ⟨b, p.toNat, none⟩ (.int .i64 (rd (cl s i) q))) B g (setCl s i ((cl s i).set p.toNat (rd (cl s i) q))) V := by
  obtain ⟨h1, G1⟩ := h.storeClause (i := i.toNat) (k := p.toNat) (rd (cl s i) q) hi hv (by omega)
  obtain ⟨h2, G2⟩ := h1.storeClause (i := i.toNat) (k := q.toNat) (rd (cl s i) p) (by simpa using hi) hv (by omega)
  refine ⟨?_, G1.trans G2, h1⟩
  have e : ({ s with clauses := (s.clauses.set i.toNat ((s.clauses.getD i.toNat []).set p.toNat (rd (cl s i) q))).set i.toNat (((s.clauses.set i.toNat ((s.clauses.getD i.toNat []).set p.toNat (rd (cl s i) q))).getD i.toNat []).set q.toNat (rd (cl s i) p)) } : S) = setCl s i (swp (cl s i) p q) := by
    rw [getD_set_self hi, List.set_set]
    rfl
  rw [← e]
  exact h2
/-- One number more is kept, in place. -/
theorem Srch.keepStep {q0 b0 cap : Nat} {old kept : List Int} (h : Srch w B g (setRow s q0 (kept ++ old.drop kept.length)) V) (hv : V (.wrow q0) = .slice (some ⟨b0, 0, none⟩) old.length cap) (hk : kept.length < old.length) (hq : q0 < s.watch.length) (x : Int) :
    Srch ((w.alloc (.cells #[.int .i64 x] 3)).setCells b0 kept.length [.int .i64 x]) B g (setRow s q0 ((kept ++ [x]) ++ old.drop (kept ++ [x]).length)) V ∧ Goes g V w V ((w.alloc (.cells #[.int .i64 x] 3)).setCells b0 kept.length [.int .i64 x]) ∧
      (∀ j, j < 1 → ((w.alloc (.cells #[.int .i64 x] 3)).cell? ⟨b0, kept.length + j, none⟩).isSome = true) ∧ (∀ j, (w.alloc (.cells #[.int .i64 x] 3)).frozen? ⟨b0, j, none⟩ = false) := by
  have ha := h.alloc (.cells #[.int .i64 x] 3)
  have hlen : (setRow s q0 (kept ++ old.drop kept.length)).watch.getD q0 [] = kept ++ old.drop kept.length := setRow_getD s q0 _ hq
  have hpl : (kept ++ old.drop kept.length).length = old.length := by simp; omega
  obtain ⟨h1, G1⟩ := ha.storeRow (q := q0) (k := kept.length) x (by simpa [setRow] using hq) hv (by omega)
  rw [hlen, setRow_setRow, set_kept old kept x hk] at h1
  refine ⟨h1, ((Goes.refl g V w).alloc _).trans G1, fun j hj => ?_, fun j => ha.unfr _ hv j⟩
  obtain ⟨y, hy⟩ := nums_some .i64 (kept ++ old.drop kept.length) (kept.length + j) (by omega)
  rw [ha.cell (.wrow q0) hv (kept.length + j) (v := y) (by simp only [C]; rw [hlen]; exact hy)]
  rfl
theorem other_past (s : S) (c : List Int) (f k : Nat) (h : ¬ k < c.length) : other s c f k = none := by cases f <;> simp [other, h]

def E5c (g : Nat) (out : Int) (A : Option Addr) (cap len : Nat) (kept : Nat) (m : Nat) (i : Int) (bc cn capc : Nat) : Env :=
  (6, .int .i64 m) :: (7, .int .i64 i) :: (8, .slice (some ⟨bc, 0, none⟩) cn capc) ::
  [(0, .pointer (some ⟨g, 0, none⟩)), (3, .int .i64 out), (4, .slice A len cap), (5, .slice A kept cap), (48, .slice A len cap), (49, .int .i64 len), (50, .int .i64 m)]
def E5 (g : Nat) (out : Int) (A : Option Addr) (cap len : Nat) (kept : Nat) (m : Nat) : Env :=
  [(0, .pointer (some ⟨g, 0, none⟩)), (3, .int .i64 out), (4, .slice A len cap), (5, .slice A kept cap), (48, .slice A len cap), (49, .int .i64 len), (50, .int .i64 m)]

set_option maxHeartbeats 8000000 in
set_option profiler true in
set_option profiler.threshold 2000 in
theorem propagate_calls {n T : Nat} (h : Srch w B g s V) (hg : Good s n T) :
    Calls Try.prog 37 #[.pointer (some ⟨g, 0, none⟩)] w fun e w' => e = .returned (.int .i64 (prop (n + 1 - s.head.toNat) s).2) ∧ ∃ V', Srch w' B g (prop (n + 1 - s.head.toNat) s).1 V' ∧ Goes g V w V' w' := by
  have hnm := hg.nmax
  have hTm := hg.tmax
  refine calls_of_FC (N := 173) (vs := [.pointer (some ⟨g, 0, none⟩)]) Try.func37 rfl Try.ntmps37 (Nat.le_of_ble_eq_true rfl) ?_
  refine FC.seq (FC.region ?_)
  refine sg_ rfl rfl rfl ?_
  refine FL.nilK ?_
  refine FC.cut (σ := S × Lay) (fun _ => [(0, .pointer (some ⟨g, 0, none⟩))]) (fun x w2 => Srch w2 B g x.1 x.2 ∧ Goes g V w x.2 w2 ∧ prop (n + 1 - s.head.toNat) s = (x.1, -1)) ?_ ?_
  rotate_left
  · rintro ⟨s1, V1⟩ w1 ⟨h1, G1, hp⟩
    refine FC.seq (FC.region ?_)
    refine sg_ rfl rfl rfl ?_
    refine FL.nilK ?_
    refine FC.ret ?_
    repeat with_reducible first | refine thn_ret ?_ | refine blk_ret ?_ | refine nog_ret ?_
    exact ret1 Try.results37 rfl ⟨by rw [hp], V1, by rw [hp]; exact h1, G1⟩
  refine FC.block ?_
  refine FC.loop (σ := S × Lay) (fun _ => [(0, .pointer (some ⟨g, 0, none⟩))]) (fun x w2 => Srch w2 B g x.1 x.2 ∧ Goes g V w x.2 w2 ∧ Good x.1 n T ∧ prop (n + 1 - x.1.head.toNat) x.1 = prop (n + 1 - s.head.toNat) s) (fun x => n - x.1.head.toNat) (s, V) ⟨h, Goes.refl g V w, hg, rfl⟩ ⟨rfl, trivial⟩ ?_
  rintro ⟨s1, V1⟩ w1 ⟨h1, G1, hg1, hp1⟩
  simp only at h1 G1 hg1 hp1
  refine FC.seq ?_
  have h2 := h1.drew
  have hd0 := hg1.hd0
  have hd1 := hg1.hd1
  have htr := hg1.tr
  obtain ⟨At, ct, hvt, _, _⟩ := h2.lenOf .trail s1.trail.length (by simp [C, nums])
  have hS := And.intro h2.f_head (cellEq h2.f_trail hvt)
  refine FC.seq (FC.draw (fun w => w.cell? ⟨g, 9, none⟩ = some (.int .i64 s1.head) ∧ w.cell? ⟨g, 7, none⟩ = some (.slice At s1.trail.length ct)) [] (bA 10 0) (by kernel_rfl) rfl rfl hS ?_)
  refine FA.pur (i := 0) (bA 10 1) rfl (by kernel_rfl) rfl rfl (p_move rfl) ?_
  refine FA.pur (i := 1) (bA 10 3) rfl (by kernel_rfl) rfl rfl (p_nilCheck rfl) ?_
  refine FA.pur (i := 2) (bA 10 7) rfl (by kernel_rfl) rfl rfl (fld67_9 rfl) ?_
  refine FA.pur (i := 4) (bA 10 23) rfl (by kernel_rfl) rfl rfl (p_move rfl) ?_
  refine FA.pur (i := 5) (bA 10 55) rfl (by kernel_rfl) rfl rfl (p_nilCheck rfl) ?_
  refine FA.pur (i := 6) (bA 10 119) rfl (by kernel_rfl) rfl rfl (fld67_7 rfl) ?_
  refine FA.lod (i := 3) (bA 10 127) rfl (by kernel_rfl) rfl rfl hS (fun _ hs => p_load rfl Try.underlying3 rfl hs.1) ?_
  refine FA.lod (i := 7) (bA 10 255) rfl (by kernel_rfl) rfl rfl hS (fun _ hs => p_load rfl Try.underlying41 rfl hs.2) ?_
  refine FA.pur (i := 8) (bA 10 511) rfl (by kernel_rfl) rfl rfl (p_len rfl Try.underlying41) ?_
  refine FA.pur (i := 9) (bA 10 1023) rfl (by kernel_rfl) rfl rfl (p_lss rfl rfl rfl) ?_
  refine FA.doneK (by kernel_rfl) ?_
  refine FC.cond (decide (s1.head < (s1.trail.length : Int))) rfl (fun hc => FC.skip (thn_normal ?_)) (fun hc => FC.exit ?_)
  rotate_left
  · have hge : ¬ s1.head < (s1.trail.length : Int) := of_decide_eq_false hc
    refine thn_exit (thn_exit (blk_exit ⟨(s1, V1), ⟨rfl, trivial⟩, h2, G1.drew, ?_⟩))
    rw [← hp1]
    obtain ⟨f, hf⟩ : ∃ f, n + 1 - s1.head.toNat = f + 1 := ⟨n - s1.head.toNat, by omega⟩
    rw [hf]
    simp only [prop, if_neg hge]
  have hlt : s1.head < (s1.trail.length : Int) := of_decide_eq_true hc
  refine FC.block ?_
  refine FC.scope ?_
  obtain ⟨bt, ct', hvt', _, _⟩ := h2.formOf .trail s1.trail.length (by simp [C, nums]) (by omega)
  have h3 := h2.drew
  obtain ⟨lt, hlt'⟩ : ∃ lt, rd s1.trail s1.head = lt := ⟨_, rfl⟩
  have hmem : lt ∈ s1.trail := by rw [← hlt']; exact rd_mem _ _ hd0 hlt
  have hLt : Lit n lt := hg1.trl lt hmem
  obtain ⟨lt1, lt2⟩ := hLt
  obtain ⟨out, hout⟩ : ∃ out, -lt = out := ⟨_, rfl⟩
  have houtL : outL s1 = out := by unfold outL; rw [hlt', hout]
  have hoL : Lit n out := by rw [← hout]; exact Lit.neg ⟨lt1, lt2⟩
  have hcell := h3.cell .trail hvt' s1.head.toNat (v := .int .i64 lt) (by simp only [C]; rw [← hlt']; exact nums_at .i64 _ _ hd0 hlt)
  have hS2 := And.intro (cellEq h3.f_trail hvt') (And.intro h3.f_head hcell)
  refine FC.seq (FC.draw (fun w => w.cell? ⟨g, 7, none⟩ = some (.slice (some ⟨bt, 0, none⟩) s1.trail.length ct') ∧ w.cell? ⟨g, 9, none⟩ = some (.int .i64 s1.head) ∧ w.cell? ⟨bt, s1.head.toNat, none⟩ = some (.int .i64 lt)) [] (bA 12 0) (by kernel_rfl) rfl rfl hS2 ?_)
  refine FA.pur (i := 0) (bA 12 1) rfl (by kernel_rfl) rfl rfl (p_move rfl) ?_
  refine FA.pur (i := 1) (bA 12 3) rfl (by kernel_rfl) rfl rfl (p_nilCheck rfl) ?_
  refine FA.pur (i := 2) (bA 12 7) rfl (by kernel_rfl) rfl rfl (fld67_7 rfl) ?_
  refine FA.pur (i := 4) (bA 12 23) rfl (by kernel_rfl) rfl rfl (p_move rfl) ?_
  refine FA.pur (i := 5) (bA 12 55) rfl (by kernel_rfl) rfl rfl (p_nilCheck rfl) ?_
  refine FA.pur (i := 6) (bA 12 119) rfl (by kernel_rfl) rfl rfl (fld67_9 rfl) ?_
  refine FA.lod (i := 3) (bA 12 127) rfl (by kernel_rfl) rfl rfl hS2 (fun _ hs => p_load rfl Try.underlying41 rfl hs.1) ?_
  refine FA.lod (i := 7) (bA 12 255) rfl (by kernel_rfl) rfl rfl hS2 (fun _ hs => p_load rfl Try.underlying3 rfl hs.2.1) ?_
  refine FA.pur (i := 8) (bA 12 511) rfl (by kernel_rfl) rfl rfl (idx41 rfl rfl hd0 hlt) ?_
  refine FA.lod (i := 9) (bA 12 1023) rfl (by kernel_rfl) rfl rfl hS2 (fun _ hs => p_load rfl Try.underlying3 rfl hs.2.2) ?_
  refine FA.pur (i := 10) (bA 12 2047) rfl (by kernel_rfl) rfl rfl (p_neg rfl ((wr (by omega) (by omega)).trans hout)) ?_
  refine FA.pur (i := 11) (bA 12 4095) rfl (by kernel_rfl) rfl rfl (p_assign rfl) ?_
  refine FA.doneK (by kernel_rfl) ?_
  refine FC.seq (FC.region ?_)
  refine mv_ rfl rfl rfl ?_
  refine FL.pur rfl rfl (p_nilCheck rfl) ?_
  refine FL.pur rfl rfl (fld67_9 rfl) ?_
  refine FL.val _ _ rfl rfl (p_load rfl Try.underlying3 rfl h3.f_head) ?_
  refine FL.pur rfl rfl (p_add rfl rfl (wr (by omega) (by omega))) ?_
  refine FL.pur rfl rfl (p_nilCheck rfl) ?_
  refine FL.pur rfl rfl (fld67_9 rfl) ?_
  obtain ⟨h4, G4⟩ := h3.setHead (s1.head + 1)
  refine FL.sto _ rfl (st3 rfl rfl rfl h3.f_head (h3.unfrozen 9)) ?_
  refine FL.nilK ?_
  obtain ⟨q0, hq0⟩ : ∃ q0, (codeL out).toNat = q0 := ⟨_, rfl⟩
  obtain ⟨s2, hs2⟩ : ∃ s2, { s1 with head := s1.head + 1 } = s2 := ⟨_, rfl⟩
  rw [hs2] at h4
  have hcq := hoL.code
  have hw1 := hg1.watch
  have hw2 : s2.watch = s1.watch := by rw [← hs2]
  have h5 := h4.drew
  obtain ⟨bo, co, hvo, _, _⟩ := h5.formOf .watch (2 * n) (by simp [C, rowsOf_length, hw2, hw1]) (by omega)
  obtain ⟨old, hold⟩ : ∃ old, s1.watch.getD q0 [] = old := ⟨_, rfl⟩
  obtain ⟨A, cap, hvw, hcap, hcapm⟩ := h5.lenOf (.wrow q0) old.length (by simp only [C]; rw [hw2, hold]; simp [nums])
  have hb0 : (codeL out).toNat < 2 * n := by omega
  have hcw := h5.cell .watch hvo (codeL out).toNat (v := .slice A old.length cap) ((rowsOf_get (fun i => V1 (.wrow i)) s2.watch.length (codeL out).toNat (by rw [hw2, hw1]; exact hb0)).trans (by simp only [hq0, hvw]))
  have hS3 := And.intro (cellEq h5.f_watch hvo) hcw
  obtain ⟨oL1, oL2⟩ := hoL
  have ob1 : -4611686018427387903 ≤ out := by omega
  have ob2 : out < 4611686018427387904 := by omega
  have qb1 : 0 ≤ codeL out := by omega
  have qb2 : codeL out < ((2 * n : Nat) : Int) := by omega
  refine FC.seq (FC.draw (fun w => w.cell? ⟨g, 2, none⟩ = some (.slice (some ⟨bo, 0, none⟩) (2 * n) co) ∧ w.cell? ⟨bo, (codeL out).toNat, none⟩ = some (.slice A old.length cap)) [] (bA 9 0) (by kernel_rfl) rfl rfl hS3 ?_)
  refine FA.pur (i := 0) (bA 9 1) rfl (by kernel_rfl) rfl rfl (p_move rfl) ?_
  refine FA.pur (i := 1) (bA 9 3) rfl (by kernel_rfl) rfl rfl (p_nilCheck rfl) ?_
  refine FA.pur (i := 2) (bA 9 7) rfl (by kernel_rfl) rfl rfl (fld67_2 rfl) ?_
  refine FA.pur (i := 4) (bA 9 23) rfl (by kernel_rfl) rfl rfl (p_move rfl) ?_
  refine FA.lod (i := 3) (bA 9 31) rfl (by kernel_rfl) rfl rfl hS3 (fun _ hs => p_load rfl Try.underlying22 rfl hs.1) ?_
  refine FA.tell (i := 5) (bA 9 63) rfl (by kernel_rfl) rfl rfl hS3 (fun _ _ => p_call Try.func47 rfl rfl rfl) (fun _ hs => code_calls out _ ob1 ob2) ?_
  refine FA.pur (i := 6) (bA 9 127) rfl (by kernel_rfl) rfl rfl (idx22 rfl rfl (by omega) (by omega)) ?_
  refine FA.lod (i := 7) (bA 9 255) rfl (by kernel_rfl) rfl rfl hS3 (fun _ hs => p_load rfl Try.underlying41 rfl hs.2) ?_
  refine FA.pur (i := 8) (bA 9 511) rfl (by kernel_rfl) rfl rfl (p_assign rfl) ?_
  refine FA.doneK (by kernel_rfl) ?_
  refine FC.seq (FC.region ?_)
  refine mv_ rfl rfl rfl ?_
  refine FL.pur rfl rfl (upto41 rfl rfl (by omega) (by omega)) ?_
  refine sg_ rfl rfl rfl ?_
  refine FL.nilK ?_
  refine FC.seq (FC.label (thn_normal ?_))
  have hq0lt : q0 < 2 * n := by omega
  have hrow : setRow s2 q0 old = s2 := by
    rw [← hold, ← hw2]
    simp only [setRow]
    have : s2.watch.set q0 (s2.watch.getD q0 []) = s2.watch := by
      apply List.ext_getElem
      · simp
      · intro i h1 h2
        rw [List.getElem_set]
        split
        · rename_i e; subst e; simp [List.getD_eq_getElem?_getD, h2]
        · rfl
    rw [this]
  have hI0 : Inner s2 n T q0 out [] old := ⟨by
      rw [List.nil_append, hrow, ← hs2]
      exact { hg1 with hd0 := by show 0 ≤ s1.head + 1; omega, hd1 := by show s1.head + 1 ≤ (s1.trail.length : Int); omega }, hq0lt, hq0.symm, lt, by rw [← hs2]; exact hmem, hout.symm⟩
  have G5 := ((G1.drew.drew).trans G4).drew
  refine FC.cut (σ := S × List Int × Lay) (fun x => [(0, .pointer (some ⟨g, 0, none⟩)), (3, .int .i64 out), (5, .slice A x.2.1.length cap)]) (fun x w2 => Srch w2 B g (setRow x.1 q0 (x.2.1 ++ old.drop x.2.1.length)) x.2.2 ∧ Goes g V w x.2.2 w2 ∧ Inner x.1 n T q0 out x.2.1 [] ∧ nextS s1 = (setRow x.1 q0 x.2.1, none) ∧ x.2.2 (.wrow q0) = .slice A old.length cap ∧ x.2.1.length ≤ old.length ∧ x.1.head = s1.head + 1) ?_ ?_
  · refine FC.seq (FC.region ?_)
    refine mv_ rfl rfl rfl ?_
    refine FL.pur rfl rfl (p_len rfl Try.underlying41) ?_
    refine mv_ rfl rfl rfl ?_
    refine FL.nilK ?_
    refine FC.block ?_
    refine FC.loop (σ := S × List Int × Nat × Lay) (fun x => E5 g out A cap old.length x.2.1.length x.2.2.1) (fun x w2 => Srch w2 B g (setRow x.1 q0 (x.2.1 ++ old.drop x.2.1.length)) x.2.2.2 ∧ Goes g V w x.2.2.2 w2 ∧ Inner x.1 n T q0 out x.2.1 (old.drop x.2.2.1) ∧ inner q0 out (old.drop x.2.2.1) x.1 x.2.1 = nextS s1 ∧ x.2.2.2 (.wrow q0) = .slice A old.length cap ∧ x.2.1.length ≤ x.2.2.1 ∧ x.2.2.1 ≤ old.length ∧ x.1.head = s1.head + 1)
      (fun x => old.length - x.2.2.1) (s2, [], 0, V1) ⟨by rw [List.nil_append, List.length_nil, List.drop_zero, hrow]; exact h5, G5, by rw [List.drop_zero]; exact hI0, by rw [List.drop_zero]; unfold nextS qOf; rw [houtL, hq0, hold, hs2], hvw, Nat.le_refl _, Nat.zero_le _, by rw [← hs2]⟩ ⟨rfl, rfl, rfl, rfl, rfl, rfl, rfl, trivial⟩ ?_
    rintro ⟨s3, kept, m, V3⟩ w3 ⟨h6, G6, hI, hin, hvw3, hkm, hmo, hhd⟩
    simp only at h6 G6 hI hin hvw3 hkm hmo hhd ⊢
    refine FC.seq (FC.region ?_)
    refine FL.pur rfl rfl (p_lss rfl rfl rfl) ?_
    refine FL.nilK ?_
    refine FC.seq (FC.cond (decide ((m : Int) < (old.length : Int))) rfl (fun hc => FC.skip (thn_normal ?_)) (fun hc => FC.exit ?_))
    rotate_left
    · have hge : ¬ (m : Int) < (old.length : Int) := of_decide_eq_false hc
      obtain rfl : m = old.length := by omega
      rw [List.drop_length] at hI hin
      exact thn_exit (thn_exit (blk_exit ⟨(s3, kept, V3), ⟨rfl, rfl, rfl, trivial⟩, h6, G6, hI, hin.symm, hvw3, hkm, hhd⟩))
    have hlt2 : (m : Int) < (old.length : Int) := of_decide_eq_true hc
    have hmlt : m < old.length := by omega
    refine FC.cut (σ := S × List Int × Lay) (fun x => E5 g out A cap old.length x.2.1.length m) (fun x w2 => Srch w2 B g (setRow x.1 q0 (x.2.1 ++ old.drop x.2.1.length)) x.2.2 ∧ Goes g V w x.2.2 w2 ∧ Inner x.1 n T q0 out x.2.1 (old.drop (m + 1)) ∧ inner q0 out (old.drop (m + 1)) x.1 x.2.1 = nextS s1 ∧ x.2.2 (.wrow q0) = .slice A old.length cap ∧ x.2.1.length ≤ m + 1 ∧ x.1.head = s1.head + 1) ?_ ?_
    rotate_left
    · rintro ⟨s4, kept4, V4⟩ w4 ⟨h7, G7, hI7, hin7, hvw7, hkm7, hhd7⟩
      refine FC.region ?_
      refine FL.pur rfl rfl (p_add rfl rfl ((wr (by omega) (by omega)).trans (show (m : Int) + 1 = ((m + 1 : Nat) : Int) by omega))) ?_
      refine mv_ rfl rfl rfl ?_
      refine FL.nil ?_
      exact ⟨(s4, kept4, m + 1, V4), ⟨rfl, rfl, rfl, rfl, rfl, rfl, rfl, trivial⟩, ⟨h7, G7, hI7, hin7, hvw7, hkm7, hmlt, hhd7⟩, by show old.length - (m + 1) < old.length - m; omega⟩
    have mb1 : -9223372036854775808 ≤ (m : Int) + 1 := by omega
    have mb2 : (m : Int) + 1 ≤ 9223372036854775807 := by omega
    have mb3 : (0 : Int) ≤ ((m + 1 : Nat) : Int) := by omega
    have mb4 : ((m + 1 : Nat) : Int) ≤ (old.length : Int) := by omega
    have mb5 : old.length - ((m + 1 : Nat) : Int).toNat = old.length - (m + 1) := by omega
    refine FC.block ?_
    obtain ⟨b0, rfl⟩ : ∃ b0, A = some ⟨b0, 0, none⟩ := by
      have hl : (C (setRow s3 q0 (kept ++ old.drop kept.length)) V3 (.wrow q0)).length = old.length := h6.lenC _ hvw3
      obtain ⟨b0, c0, e, _⟩ := h6.formOf (.wrow q0) old.length hl (by omega)
      rw [hvw3] at e; injection e with e _ _
      exact ⟨b0, e⟩
    have hlw3 := hI.lenw
    have hq03 : q0 < s3.watch.length := by omega
    have hphys : (setRow s3 q0 (kept ++ old.drop kept.length)).watch.getD q0 [] = kept ++ old.drop kept.length := setRow_getD s3 q0 _ hq03
    obtain ⟨i, hi⟩ : ∃ i, rd old m = i := ⟨_, rfl⟩
    have hdrop := drop_cons old m hmlt
    rw [hi] at hdrop
    have hplen : (kept ++ old.drop kept.length).length = old.length := by simp; omega
    have hcold := h6.cell (.wrow q0) hvw3 (m : Int).toNat (v := .int .i64 i) (by
      simp only [C]
      rw [hphys, ← hi, ← drop_rd old kept m hkm hmlt]
      exact nums_at .i64 _ _ (by omega) (by rw [hplen]; omega))
    refine FC.seq (FC.region ?_)
    refine mv_ rfl rfl rfl ?_
    refine FL.pur rfl rfl (idx41 rfl rfl (by omega) hlt2) ?_
    refine FL.val _ _ rfl rfl (p_load rfl Try.underlying3 rfl hcold) ?_
    refine sg_ rfl rfl rfl ?_
    refine sg_ rfl rfl rfl ?_
    refine FL.nilK ?_
    rw [hdrop] at hI hin
    obtain ⟨hi0, hi1, hi2, hiL⟩ := hI.entry
    obtain ⟨bcl, ccl, hvc, _, _⟩ := h6.formOf .clauses s3.clauses.length (by simp [C, rowsOf_length, setRow]) (by omega)
    obtain ⟨bc, capc, hvi, hcc, hccm, hcellc⟩ := h6.cl_form (i := i) hi0 hi1 hi2
    have hcli : cl (setRow s3 q0 (kept ++ old.drop kept.length)) i = cl s3 i := rfl
    rw [hcli] at hvi hcc hcellc
    have hchead := h6.cell .clauses hvc i.toNat (v := .slice (some ⟨bc, 0, none⟩) (cl s3 i).length capc) ((rowsOf_get (fun i => V3 (.clause i)) s3.clauses.length i.toNat (by omega)).trans (by simp only [hvi]))
    refine FC.seq (FC.region ?_)
    refine mv_ rfl rfl rfl ?_
    refine FL.pur rfl rfl (p_nilCheck rfl) ?_
    refine FL.pur rfl rfl (fld67_1 rfl) ?_
    refine FL.val _ _ rfl rfl (p_load rfl Try.underlying22 rfl (cellEq h6.f_clauses hvc)) ?_
    refine mv_ rfl rfl rfl ?_
    refine FL.pur rfl rfl (idx22 rfl rfl hi0 hi1) ?_
    refine FL.val _ _ rfl rfl (p_load rfl Try.underlying41 rfl hchead) ?_
    refine sg_ rfl rfl rfl ?_
    refine FL.nilK ?_
    refine FC.cut (σ := Unit) (fun _ => E5c g out (some ⟨b0, 0, none⟩) cap old.length kept.length m i bc (cl s3 i).length capc) (fun _ w2 => Srch w2 B g (setRow (setCl s3 i (front out (cl s3 i))) q0 (kept ++ old.drop kept.length)) V3 ∧ Goes g V w V3 w2) ?_ ?_
    · refine FC.seq (FC.region ?_)
      refine mv_ rfl rfl rfl ?_
      refine FL.pur rfl rfl (idx41 rfl rfl (by omega) (by omega)) ?_
      refine FL.val _ _ rfl rfl (p_load rfl Try.underlying3 rfl (hcellc 0 (by omega) (by omega))) ?_
      refine mv_ rfl rfl rfl ?_
      refine FL.pur rfl rfl (p_eql rfl rfl rfl) ?_
      refine FL.nilK ?_
      refine FC.cond (decide (rd (cl s3 i) 0 = out)) rfl (fun hc => ?_) (fun hc => FC.skip ?_)
      · have he : rd (cl s3 i) 0 = out := of_decide_eq_true hc
        have h6d := h6.drew
        obtain ⟨h7, G7, h7a⟩ := h6d.swap (i := i) (by show i.toNat < s3.clauses.length; omega) hvi (p := 0) (q := 1) (by omega) (by show (0 : Int) < (cl s3 i).length; omega) (by omega) (by show (1 : Int) < (cl s3 i).length; omega)
        have hc0 := h6d.cell _ hvi (0 : Int).toNat (v := .int .i64 (rd (cl s3 i) 0)) (by simp only [C]; exact nums_at .i64 (cl s3 i) 0 (by omega) (by omega))
        have hc1 := h6d.cell _ hvi (1 : Int).toNat (v := .int .i64 (rd (cl s3 i) 1)) (by simp only [C]; exact nums_at .i64 (cl s3 i) 1 (by omega) (by omega))
        have hcl1 : (C (setCl (setRow s3 q0 (kept ++ old.drop kept.length)) i ((cl s3 i).set (0 : Int).toNat (rd (cl s3 i) 1))) V3 (.clause i.toNat))[(1 : Int).toNat]? = some (.int .i64 (rd (cl s3 i) 1)) := by
          have e1 : C (setCl (setRow s3 q0 (kept ++ old.drop kept.length)) i ((cl s3 i).set (0 : Int).toNat (rd (cl s3 i) 1))) V3 (.clause i.toNat) = nums .i64 ((cl s3 i).set (0 : Int).toNat (rd (cl s3 i) 1)) := by
            simp only [C, setCl]
            rw [getD_set_self (by show i.toNat < s3.clauses.length; omega)]
          rw [e1, nums_at .i64 _ 1 (by omega) (by rw [List.length_set]; omega)]
          unfold rd
          rw [getD_set_other (by decide)]
        have hS4 := And.intro hc0 hc1
        refine (FC.draw (fun w => w.cell? ⟨bc, (0 : Int).toNat, none⟩ = some (.int .i64 (rd (cl s3 i) 0)) ∧ w.cell? ⟨bc, (1 : Int).toNat, none⟩ = some (.int .i64 (rd (cl s3 i) 1))) [9, 11] (bA 12 0) (by kernel_rfl) rfl rfl hS4 ?_)
        refine FA.pur (i := 0) (bA 12 1) rfl (by kernel_rfl) rfl rfl (p_move rfl) ?_
        refine FA.pur (i := 1) (bA 12 3) rfl (by kernel_rfl) rfl rfl (p_move rfl) ?_
        refine FA.pur (i := 2) (bA 12 7) rfl (by kernel_rfl) rfl rfl (p_move rfl) ?_
        refine FA.pur (i := 3) (bA 12 15) rfl (by kernel_rfl) rfl rfl (idx41 rfl rfl (by omega) (by omega)) ?_
        refine FA.pur (i := 5) (bA 12 47) rfl (by kernel_rfl) rfl rfl (p_move rfl) ?_
        refine FA.pur (i := 6) (bA 12 111) rfl (by kernel_rfl) rfl rfl (idx41 rfl rfl (by omega) (by omega)) ?_
        refine FA.lod (i := 4) (bA 12 127) rfl (by kernel_rfl) rfl rfl hS4 (fun _ hs => p_load rfl Try.underlying3 rfl hs.2) ?_
        refine FA.lod (i := 7) (bA 12 255) rfl (by kernel_rfl) rfl rfl hS4 (fun _ hs => p_load rfl Try.underlying3 rfl hs.1) ?_
        refine FA.pur (i := 8) (bA 12 511) rfl (by kernel_rfl) rfl rfl (idx41 rfl rfl (by omega) (by omega)) ?_
        refine FA.lastS (i := 9) _ (bA 12 1023) rfl (by kernel_rfl) (by decide) rfl (st3 rfl rfl rfl hc0 (h6d.unfr _ hvi _)) ?_
        refine FA.pur (i := 10) (bA 12 2047) rfl (by kernel_rfl) rfl rfl (idx41 rfl rfl (by omega) (by omega)) ?_
        refine FA.lastS (i := 11) _ (bA 12 4095) rfl (by kernel_rfl) (by decide) rfl (st3 rfl rfl rfl (h7a.cell _ hvi _ hcl1) (h7a.unfr _ hvi _)) ?_
        refine FA.done (by kernel_rfl) ?_
        refine ⟨(), ⟨rfl, rfl, rfl, rfl, rfl, rfl, rfl, rfl, rfl, rfl, trivial⟩, ?_, G6.drew.trans G7⟩
        have e : front out (cl s3 i) = swp (cl s3 i) 0 1 := by unfold front; rw [if_pos he]
        rw [e]; exact h7
      · have he : ¬ rd (cl s3 i) 0 = out := of_decide_eq_false hc
        refine ⟨(), ⟨rfl, rfl, rfl, rfl, rfl, rfl, rfl, rfl, rfl, rfl, trivial⟩, ?_, G6⟩
        have e : front out (cl s3 i) = cl s3 i := by unfold front; rw [if_neg he]
        have e2 : setCl s3 i (cl s3 i) = s3 := by
          have : s3.clauses.set i.toNat (s3.clauses.getD i.toNat []) = s3.clauses := by
            apply List.ext_getElem
            · simp
            · intro j h1 h2
              rw [List.getElem_set]
              split
              · rename_i e; subst e; simp [List.getD_eq_getElem?_getD, h2]
              · rfl
          simp only [setCl, cl, this]
        rw [e, e2]; exact h6
    rintro _ w5 ⟨h7, G7⟩
    clear h6 G6 hcold hchead hcellc
    obtain ⟨c1, hc1⟩ : ∃ c1, front out (cl s3 i) = c1 := ⟨_, rfl⟩
    have hc1l : c1.length = (cl s3 i).length := by rw [← hc1, front_length]
    have hc1m : ∀ l ∈ c1, l ∈ cl s3 i := fun l hl => front_mem hi2 (by rw [hc1]; exact hl)
    rw [hc1] at h7
    have hI1 := hI.turned hc1l hc1m
    have hil : i.toNat < s3.clauses.length := by omega
    have hclc1 : cl (setCl s3 i c1) i = c1 := cl_setCl s3 i c1 hil
    have hcell1 : ∀ W, Srch W B g (setRow (setCl s3 i c1) q0 (kept ++ old.drop kept.length)) V3 → ∀ k : Int, 0 ≤ k → k < c1.length → W.cell? ⟨bc, k.toNat, none⟩ = some (.int .i64 (rd c1 k)) := fun W hW k k0 k1 =>
      hW.cell _ hvi k.toNat (by
        have e1 : C (setRow (setCl s3 i c1) q0 (kept ++ old.drop kept.length)) V3 (.clause i.toNat) = nums .i64 c1 := by
          simp only [C, setRow, setCl]
          rw [getD_set_self hil]
        rw [e1]; exact nums_at .i64 c1 k k0 k1)
    have hlitk : ∀ k : Int, 0 ≤ k → k < c1.length → Lit n (rd c1 k) ∧ rd c1 k ≠ 0 := fun k k0 k1 => hiL _ (hc1m _ (rd_mem c1 k k0 k1))
    have hof : ∀ W, Srch W B g (setRow (setCl s3 i c1) q0 (kept ++ old.drop kept.length)) V3 → ∀ l, Lit n l → Calls Try.prog 33 #[.pointer (some ⟨g, 0, none⟩), .int .i64 l] W fun e w' => e = .returned (.int .i8 (ofv s3 l)) ∧ W = w' := fun W hW l hl =>
      of_calls hW l (by have := hI1.good.value; show -(s3.value.length : Int) < l; have e : s3.value.length = n := this; rw [e]; exact hl.1) (by have := hI1.good.value; show l < (s3.value.length : Int); have e : s3.value.length = n := this; rw [e]; exact hl.2) hI1.good.small
    have hkl : kept.length < old.length := by omega
    have hq03' : q0 < (setCl s3 i c1).watch.length := hq03
    rw [← hc1l] at hvi
    obtain ⟨hL0, hz0⟩ := hlitk 0 (by omega) (by omega)
    refine FC.seq ?_
    rw [← hc1l]
    refine FC.seq (FC.region ?_)
    refine mv_ rfl rfl rfl ?_
    refine mv_ rfl rfl rfl ?_
    refine FL.pur rfl rfl (idx41 rfl rfl (by omega) (by omega)) ?_
    refine FL.val _ _ rfl rfl (p_load rfl Try.underlying3 rfl (hcell1 _ h7 0 (by omega) (by omega))) ?_
    refine FL.call rfl rfl (p_call Try.func33 rfl rfl rfl) (hof _ h7 _ hL0) ?_
    rintro e_ w_ ⟨rfl, rfl⟩
    refine ⟨_, rfl, ?_⟩
    refine FL.pur rfl rfl (p_eql rfl rfl rfl) ?_
    refine FL.nilK ?_
    refine FC.cond (decide (ofv s3 (rd c1 0) = 1)) rfl (fun hc => ?_) (fun hc => FC.skip (thn_normal ?_))
    · have he : ofv s3 (rd c1 0) = 1 := of_decide_eq_true hc
      obtain ⟨h8, G8, hsome, hunf⟩ := h7.keepStep hvw3 hkl hq03' i
      refine FC.seq (FC.region ?_)
      refine mv_ rfl rfl rfl ?_
      refine mv_ rfl rfl rfl ?_
      refine FL.val _ _ rfl rfl (bld41 rfl rfl) ?_
      refine FL.val _ _ rfl rfl (appIn41 rfl rfl (news := [.int .i64 i]) rfl (news1 _ _ _) (by simp [Value.oneCell']) (by omega) hsome hunf) ?_
      refine sg_ rfl rfl rfl ?_
      refine FL.nilK ?_
      refine FC.exit ?_
      repeat (first | with_reducible refine thn_exit ?_ | with_reducible refine nog_exit ?_ | with_reducible refine blk_pass (by decide) ?_)
      with_reducible refine blk_exit ?_
      try with_reducible refine thn_normal ?_
      refine ⟨(setCl s3 i c1, kept ++ [i], V3), ⟨rfl, rfl, rfl, by simp [Env.get], rfl, rfl, rfl, trivial⟩, h8, G7.trans G8, hI1.kept, ?_, hvw3, by simp; omega, hhd⟩
      rw [← hin]
      simp only [inner, hc1, if_pos he]
    have hne1 : ¬ ofv s3 (rd c1 0) = 1 := of_decide_eq_false hc
    refine FC.cut (σ := Unit) (fun _ => E5c g out (some ⟨b0, 0, none⟩) cap old.length kept.length m i bc c1.length capc) (fun _ w2 => w2 = w5 ∧ findO s3 c1 = none) ?_ ?_
    · refine FC.seq (FC.region ?_)
      refine sg_ rfl rfl rfl ?_
      refine FL.nilK ?_
      refine FC.block ?_
      refine FC.loop (σ := Nat) (fun k => (9, .int .i64 k) :: E5c g out (some ⟨b0, 0, none⟩) cap old.length kept.length m i bc c1.length capc) (fun k w2 => w2 = w5 ∧ 2 ≤ k ∧ other s3 c1 (c1.length + 2 - k) k = findO s3 c1) (fun k => c1.length - k) 2 ⟨rfl, Nat.le_refl _, rfl⟩ ⟨rfl, rfl, rfl, rfl, rfl, rfl, rfl, rfl, rfl, rfl, rfl, trivial⟩ ?_
      rintro k w2 ⟨rfl, hk2, hoth⟩
      refine FC.seq ?_
      refine FC.seq (FC.region ?_)
      refine mv_ rfl rfl rfl ?_
      refine mv_ rfl rfl rfl ?_
      refine FL.pur rfl rfl (p_len rfl Try.underlying41) ?_
      refine FL.pur rfl rfl (p_lss rfl rfl rfl) ?_
      refine FL.nilK ?_
      refine FC.cond (decide ((k : Int) < (c1.length : Int))) rfl (fun hc => FC.skip (thn_normal ?_)) (fun hc => FC.exit ?_)
      rotate_left
      · have hge : ¬ (k : Int) < (c1.length : Int) := of_decide_eq_false hc
        refine thn_exit (thn_exit (blk_exit ⟨(), ⟨rfl, rfl, rfl, rfl, rfl, rfl, rfl, rfl, rfl, rfl, trivial⟩, rfl, ?_⟩))
        rw [← hoth]
        exact other_past _ _ _ _ (by omega)
      have hklt : (k : Int) < (c1.length : Int) := of_decide_eq_true hc
      obtain ⟨hLk, hzk⟩ := hlitk k (by omega) hklt
      obtain ⟨f, hf⟩ : ∃ f, c1.length + 2 - k = f + 1 := ⟨c1.length + 1 - k, by omega⟩
      refine FC.seq ?_
      refine FC.block ?_
      refine FC.seq (FC.region ?_)
      refine mv_ rfl rfl rfl ?_
      refine mv_ rfl rfl rfl ?_
      refine mv_ rfl rfl rfl ?_
      refine FL.pur rfl rfl (idx41 rfl rfl (by omega) hklt) ?_
      refine FL.val _ _ rfl rfl (p_load rfl Try.underlying3 rfl (hcell1 _ h7 k (by omega) hklt)) ?_
      refine FL.call rfl rfl (p_call Try.func33 rfl rfl rfl) (hof _ h7 _ hLk) ?_
      rintro e_ w_ ⟨rfl, rfl⟩
      refine ⟨_, rfl, ?_⟩
      refine FL.pur rfl rfl (p_neq rfl rfl (Bool.not_not _).symm) ?_
      refine FL.nilK ?_
      refine FC.cond (!decide (ofv s3 (rd c1 k) = -1)) rfl (fun hc => ?_) (fun hc => FC.skip (blk_normal (thn_normal ?_)))
      rotate_left
      · have hm1 : ofv s3 (rd c1 k) = -1 := by simpa using hc
        refine FC.region ?_
        refine mv_ rfl rfl rfl ?_
        refine FL.pur rfl rfl (p_add rfl rfl ((wr (by omega) (by omega)).trans (show (k : Int) + 1 = ((k + 1 : Nat) : Int) by omega))) ?_
        refine sg_ rfl rfl rfl ?_
        refine FL.nil ?_
        refine ⟨k + 1, ⟨rfl, rfl, rfl, rfl, rfl, rfl, rfl, rfl, rfl, rfl, rfl, trivial⟩, ⟨rfl, by omega, ?_⟩, by omega⟩
        rw [← hoth, hf]
        conv => rhs; unfold other
        rw [if_pos (by omega), if_pos hm1]
        congr 1
        omega
      have hm1 : ofv s3 (rd c1 k) ≠ -1 := by simpa using hc
      have hfind : findO s3 c1 = some k := by
        rw [← hoth, hf]
        unfold other
        rw [if_pos (by omega), if_neg hm1]
      have h7d := h7.drew
      have hcls : cl (setRow (setCl s3 i c1) q0 (kept ++ old.drop kept.length)) i = c1 := hclc1
      obtain ⟨h8, G8, h8a⟩ := h7d.swap (i := i) (by show i.toNat < (s3.clauses.set i.toNat c1).length; rw [List.length_set]; exact hil) (by rw [hcls]; exact hvi) (p := 1) (q := k) (by omega) (by rw [hcls]; omega) (by omega) (by rw [hcls]; exact hklt)
      rw [hcls] at h8 G8 h8a
      have hc1c := hcell1 _ h7d 1 (by omega) (by omega)
      have hckc := hcell1 _ h7d k (by omega) hklt
      have hclk : (C (setCl (setRow (setCl s3 i c1) q0 (kept ++ old.drop kept.length)) i (c1.set (1 : Int).toNat (rd c1 k))) V3 (.clause i.toNat))[(k : Int).toNat]? = some (.int .i64 (rd c1 k)) := by
        have e1 : C (setCl (setRow (setCl s3 i c1) q0 (kept ++ old.drop kept.length)) i (c1.set (1 : Int).toNat (rd c1 k))) V3 (.clause i.toNat) = nums .i64 (c1.set (1 : Int).toNat (rd c1 k)) := by
          simp only [C, setCl, setRow]
          rw [getD_set_self (by rw [List.length_set]; exact hil)]
        rw [e1, nums_at .i64 _ k (by omega) (by rw [List.length_set]; exact hklt)]
        unfold rd
        rw [getD_set_other (by show (1 : Int).toNat ≠ (k : Int).toNat; omega)]
      have hS5 := And.intro hc1c hckc
      refine FC.seq (FC.draw (fun w => w.cell? ⟨bc, (1 : Int).toNat, none⟩ = some (.int .i64 (rd c1 1)) ∧ w.cell? ⟨bc, (k : Int).toNat, none⟩ = some (.int .i64 (rd c1 k))) [11, 13] (bA 14 0) (by kernel_rfl) rfl rfl hS5 ?_)
      refine FA.pur (i := 0) (bA 14 1) rfl (by kernel_rfl) rfl rfl (p_move rfl) ?_
      refine FA.pur (i := 1) (bA 14 3) rfl (by kernel_rfl) rfl rfl (p_move rfl) ?_
      refine FA.pur (i := 2) (bA 14 7) rfl (by kernel_rfl) rfl rfl (p_move rfl) ?_
      refine FA.pur (i := 3) (bA 14 15) rfl (by kernel_rfl) rfl rfl (p_move rfl) ?_
      refine FA.pur (i := 4) (bA 14 31) rfl (by kernel_rfl) rfl rfl (p_move rfl) ?_
      refine FA.pur (i := 5) (bA 14 63) rfl (by kernel_rfl) rfl rfl (idx41 rfl rfl (by omega) hklt) ?_
      refine FA.pur (i := 7) (bA 14 191) rfl (by kernel_rfl) rfl rfl (p_move rfl) ?_
      refine FA.pur (i := 8) (bA 14 447) rfl (by kernel_rfl) rfl rfl (idx41 rfl rfl (by omega) (by omega)) ?_
      refine FA.lod (i := 6) (bA 14 511) rfl (by kernel_rfl) rfl rfl hS5 (fun _ hs => p_load rfl Try.underlying3 rfl hs.2) ?_
      refine FA.lod (i := 9) (bA 14 1023) rfl (by kernel_rfl) rfl rfl hS5 (fun _ hs => p_load rfl Try.underlying3 rfl hs.1) ?_
      refine FA.pur (i := 10) (bA 14 2047) rfl (by kernel_rfl) rfl rfl (idx41 rfl rfl (by omega) (by omega)) ?_
      refine FA.lastS (i := 11) _ (bA 14 4095) rfl (by kernel_rfl) (by decide) rfl (st3 rfl rfl rfl hc1c (h7d.unfr _ hvi _)) ?_
      refine FA.pur (i := 12) (bA 14 8191) rfl (by kernel_rfl) rfl rfl (idx41 rfl rfl (by omega) hklt) ?_
      refine FA.lastS (i := 13) _ (bA 14 16383) rfl (by kernel_rfl) (by decide) rfl (st3 rfl rfl rfl (h8a.cell _ hvi _ hclk) (h8a.unfr _ hvi _)) ?_
      refine FA.doneK (by kernel_rfl) ?_
      obtain ⟨w6, hw6⟩ : ∃ w6, ((w2.drew.setCell ⟨bc, (1 : Int).toNat, none⟩ (.int .i64 (rd c1 k))).setCell ⟨bc, (k : Int).toNat, none⟩ (.int .i64 (rd c1 1))) = w6 := ⟨_, rfl⟩
      rw [hw6] at h8 G8 ⊢
      obtain ⟨c2, hc2⟩ : ∃ c2, swp c1 1 k = c2 := ⟨_, rfl⟩
      have hc2l : c2.length = c1.length := by rw [← hc2, swp_length]
      have hc2m : ∀ l ∈ c2, l ∈ c1 := fun l hl => swp_mem (a := 1) (b := k) (by omega) (by omega) (by omega) hklt (by rw [hc2]; exact hl)
      have hc21 : rd c2 1 = rd c1 k := by
        rw [← hc2]
        unfold swp
        by_cases e : k = 1
        · omega
        · unfold rd
          rw [getD_set_other (by show (k : Int).toNat ≠ (1 : Int).toNat; omega), getD_set_self (by show (1 : Int).toNat < c1.length; omega)]
      have hI2 := hI.turned (hc2l.trans hc1l) (fun l hl => hc1m l (hc2m l hl))
      have e2 : setCl (setRow (setCl s3 i c1) q0 (kept ++ old.drop kept.length)) i c2 = setRow (setCl s3 i c2) q0 (kept ++ old.drop kept.length) := by
        show setRow (setCl (setCl s3 i c1) i c2) q0 _ = _
        rw [setCl_setCl]
      rw [hc2, e2] at h8
      clear h8a hw6 hS5 hclk hc1c hckc
      have h9 := h8.drew
      obtain ⟨l2, hl2⟩ : ∃ l2, rd c1 k = l2 := ⟨_, rfl⟩
      rw [hl2] at hc21 hLk
      obtain ⟨hqne, hI3⟩ := hI2.move (l := l2) hLk (by rw [← hl2]; exact hm1)
      have hcq2 := hLk.code
      have hrow2 : (setRow (setCl s3 i c2) q0 (kept ++ old.drop kept.length)).watch.getD (codeL l2).toNat [] = s3.watch.getD (codeL l2).toNat [] := getD_set_other (Ne.symm hqne)
      have hwl9 : (setRow (setCl s3 i c2) q0 (kept ++ old.drop kept.length)).watch.length = 2 * n := by show (s3.watch.set q0 _).length = 2 * n; rw [List.length_set]; exact hlw3
      obtain ⟨bo9, co9, hvo9, _, _⟩ := h9.formOf .watch (2 * n) (by simp only [C]; rw [rowsOf_length, hwl9]) (by omega)
      have hcc1 := h9.cell _ hvi (1 : Int).toNat (v := .int .i64 l2) (by
        have e1 : C (setRow (setCl s3 i c2) q0 (kept ++ old.drop kept.length)) V3 (.clause i.toNat) = nums .i64 c2 := by
          simp only [C, setRow, setCl]
          rw [getD_set_self hil]
        rw [e1, ← hc21]; exact nums_at .i64 c2 1 (by omega) (by omega))
      have hcwq := h9.cell .watch hvo9 (codeL l2).toNat (v := V3 (.wrow (codeL l2).toNat)) (rowsOf_get (fun i => V3 (.wrow i)) _ (codeL l2).toNat (by rw [hwl9]; omega))
      have hS9 := And.intro (cellEq h9.f_watch hvo9) (And.intro hcc1 hcwq)
      have hlr9 : (C (setRow (setCl s3 i c2) q0 (kept ++ old.drop kept.length)) V3 (.wrow (codeL l2).toNat)).length < 1099511627776 := by
        simp only [C]
        rw [hrow2]
        have h1 : (s3.watch.set q0 (kept ++ i :: old.drop (m + 1))).getD (codeL l2).toNat [] = s3.watch.getD (codeL l2).toNat [] := getD_set_other (Ne.symm hqne)
        have h2 := le_sum (s3.watch.set q0 (kept ++ i :: old.drop (m + 1))) (codeL l2).toNat
        rw [h1] at h2
        have h3 : ((s3.watch.set q0 (kept ++ i :: old.drop (m + 1))).map List.length).sum ≤ T := hI.good.ws
        simp only [nums, List.length_map]
        omega
      obtain ⟨p1, p2⟩ := hLk
      have hww := hI.good.cls
      refine FC.seq (FC.draw (fun w => w.cell? ⟨g, 2, none⟩ = some (.slice (some ⟨bo9, 0, none⟩) (2 * n) co9) ∧ w.cell? ⟨bc, (1 : Int).toNat, none⟩ = some (.int .i64 l2) ∧ w.cell? ⟨bo9, (codeL l2).toNat, none⟩ = some (V3 (.wrow (codeL l2).toNat))) [22] (bA 23 0) (by kernel_rfl) rfl rfl hS9 ?_)
      refine FA.pur (i := 0) (bA 23 1) rfl (by kernel_rfl) rfl rfl (p_move rfl) ?_
      refine FA.pur (i := 1) (bA 23 3) rfl (by kernel_rfl) rfl rfl (p_nilCheck rfl) ?_
      refine FA.pur (i := 2) (bA 23 7) rfl (by kernel_rfl) rfl rfl (fld67_2 rfl) ?_
      refine FA.pur (i := 4) (bA 23 23) rfl (by kernel_rfl) rfl rfl (p_move rfl) ?_
      refine FA.pur (i := 5) (bA 23 55) rfl (by kernel_rfl) rfl rfl (idx41 rfl rfl (by omega) (by omega)) ?_
      refine FA.pur (i := 8) (bA 23 311) rfl (by kernel_rfl) rfl rfl (p_move rfl) ?_
      refine FA.pur (i := 9) (bA 23 823) rfl (by kernel_rfl) rfl rfl (p_nilCheck rfl) ?_
      refine FA.pur (i := 10) (bA 23 1847) rfl (by kernel_rfl) rfl rfl (fld67_2 rfl) ?_
      refine FA.pur (i := 12) (bA 23 5943) rfl (by kernel_rfl) rfl rfl (p_move rfl) ?_
      refine FA.pur (i := 13) (bA 23 14135) rfl (by kernel_rfl) rfl rfl (idx41 rfl rfl (by omega) (by omega)) ?_
      refine FA.pur (i := 18) (bA 23 276279) rfl (by kernel_rfl) rfl rfl (p_move rfl) ?_
      refine FA.lod (i := 3) (bA 23 276287) rfl (by kernel_rfl) rfl rfl hS9 (fun _ hs => p_load rfl Try.underlying22 rfl hs.1) ?_
      refine FA.lod (i := 6) (bA 23 276351) rfl (by kernel_rfl) rfl rfl hS9 (fun _ hs => p_load rfl Try.underlying3 rfl hs.2.1) ?_
      refine FA.lod (i := 11) (bA 23 278399) rfl (by kernel_rfl) rfl rfl hS9 (fun _ hs => p_load rfl Try.underlying22 rfl hs.1) ?_
      refine FA.lod (i := 14) (bA 23 294783) rfl (by kernel_rfl) rfl rfl hS9 (fun _ hs => p_load rfl Try.underlying3 rfl hs.2.1) ?_
      refine FA.tell (i := 7) (bA 23 294911) rfl (by kernel_rfl) rfl rfl hS9 (fun _ _ => p_call Try.func47 rfl rfl rfl) (fun _ hs => code_calls l2 _ (by omega) (by omega)) ?_
      refine FA.tell (i := 15) (bA 23 327679) rfl (by kernel_rfl) rfl rfl hS9 (fun _ _ => p_call Try.func47 rfl rfl rfl) (fun _ hs => code_calls l2 _ (by omega) (by omega)) ?_
      refine FA.pur (i := 16) (bA 23 393215) rfl (by kernel_rfl) rfl rfl (idx22 rfl rfl (by omega) (by omega)) ?_
      refine FA.lod (i := 17) (bA 23 524287) rfl (by kernel_rfl) rfl rfl hS9 (fun _ hs => p_load rfl Try.underlying41 rfl hs.2.2) ?_
      refine FA.one (i := 19) _ _ (bA 23 1048575) rfl (by kernel_rfl) (by decide) rfl rfl (bld41 rfl rfl) ⟨cell_alloc hS9.1 _, cell_alloc hS9.2.1 _, cell_alloc hS9.2.2 _⟩ ?_
      refine FA.oneG (i := 20) _ (bA 23 2097151) rfl (by kernel_rfl) (by decide) rfl rfl (h9.app3 (.wrow (codeL l2).toNat) rfl hlr9 i rfl rfl) (fun v8 w8 hg => ?_) (fun v9 w10 hg => ?_)
      · exact ⟨hg.fr.cell hS9.1 (h9.gne _), hg.fr.cell hS9.2.1 (fun e => by have := h9.inj _ _ _ e (by rw [hvi]; rfl); cases this), hg.fr.cell hS9.2.2 (fun e => by have := h9.inj _ _ _ e (by rw [hvo9]; rfl); cases this)⟩
      refine FA.pur (i := 21) (bA 23 4194303) rfl (by kernel_rfl) rfl rfl (idx22 rfl rfl (by omega) (by omega)) ?_
      obtain ⟨h11, G11⟩ := h9.pushWatch (codeL l2).toNat i hg hvo9 (by rw [hwl9]; omega)
      refine FA.lastS (i := 22) _ (bA 23 8388607) rfl (by kernel_rfl) (by decide) rfl (st41 rfl rfl (own_one hg.own) (hg.fr.cell hS9.2.2 (fun e => by have := h9.inj _ _ _ e (by rw [hvo9]; rfl); cases this)) (hg.fr.unfr hS9.2.2 (h9.unfr .watch hvo9 _) (fun e => by have := h9.inj _ _ _ e (by rw [hvo9]; rfl); cases this))) ?_
      refine FA.doneK (by kernel_rfl) ?_
      refine FC.exit ?_
      repeat (first | with_reducible refine thn_exit ?_ | with_reducible refine nog_exit ?_ | with_reducible refine blk_pass (by decide) ?_)
      with_reducible refine blk_exit ?_
      try with_reducible refine thn_normal ?_
      refine ⟨(pushRow (setCl s3 i c2) (codeL l2).toNat i, kept, upd V3 (.wrow (codeL l2).toNat) v9), ⟨rfl, rfl, rfl, rfl, rfl, rfl, rfl, trivial⟩, ?_, (((G7.drew.trans G8).drew).trans G11), hI3, ?_, ?_, (show kept.length ≤ m + 1 by omega), hhd⟩
      · have e3 : ({ setRow (setCl s3 i c2) q0 (kept ++ old.drop kept.length) with watch := pushW (setRow (setCl s3 i c2) q0 (kept ++ old.drop kept.length)).watch (codeL l2).toNat i } : S) = setRow (pushRow (setCl s3 i c2) (codeL l2).toNat i) q0 (kept ++ old.drop kept.length) := by
          have e4 : pushW (s3.watch.set q0 (kept ++ old.drop kept.length)) (codeL l2).toNat i = (pushW s3.watch (codeL l2).toNat i).set q0 (kept ++ old.drop kept.length) := by
            unfold pushW
            rw [getD_set_other (Ne.symm hqne), List.set_comm _ _ (Ne.symm hqne)]
          simp only [setRow, pushRow, setCl, e4]
        rw [← e3]; exact h11
      · rw [← hin]
        simp only [inner, hc1, if_neg hne1, hfind, hc2, hl2]
      · show upd V3 (.wrow (codeL l2).toNat) v9 (.wrow q0) = _
        rw [upd_ne _ _ (by intro e; injection e with e; exact hqne e.symm)]; exact hvw3
    rintro _ w2 ⟨rfl, hnone⟩
    obtain ⟨h8, G8, hsome, hunf⟩ := h7.keepStep hvw3 hkl hq03' i
    refine FC.seq (FC.region ?_)
    refine mv_ rfl rfl rfl ?_
    refine mv_ rfl rfl rfl ?_
    refine FL.val _ _ rfl rfl (bld41 rfl rfl) ?_
    refine FL.val _ _ rfl rfl (appIn41 rfl rfl (news := [.int .i64 i]) rfl (news1 _ _ _) (by simp [Value.oneCell']) (by omega) hsome hunf) ?_
    refine sg_ rfl rfl rfl ?_
    refine FL.nilK ?_
    obtain ⟨w8, hw8⟩ : ∃ w8, (w2.alloc (.cells #[.int .i64 i] 3)).setCells b0 kept.length [.int .i64 i] = w8 := ⟨_, rfl⟩
    rw [hw8] at h8 G8 ⊢
    clear hsome hunf hw8
    have G8' := G7.trans G8
    have hof8 : ∀ l, Lit n l → Calls Try.prog 33 #[.pointer (some ⟨g, 0, none⟩), .int .i64 l] w8 fun e w' => e = .returned (.int .i8 (ofv s3 l)) ∧ w8 = w' := fun l hl =>
      of_calls h8 l (by have e : s3.value.length = n := hI1.good.value; show -(s3.value.length : Int) < l; rw [e]; exact hl.1) (by have e : s3.value.length = n := hI1.good.value; show l < (s3.value.length : Int); rw [e]; exact hl.2) hI1.good.small
    have hcell8 := h8.cell _ hvi (0 : Int).toNat (v := .int .i64 (rd c1 0)) (by
      have e1 : C (setRow (setCl s3 i c1) q0 ((kept ++ [i]) ++ old.drop (kept ++ [i]).length)) V3 (.clause i.toNat) = nums .i64 c1 := by
        simp only [C, setRow, setCl]
        rw [getD_set_self hil]
      rw [e1]; exact nums_at .i64 c1 0 (by omega) (by omega))
    refine FC.cut (σ := Unit) (fun _ => [(0, .pointer (some ⟨g, 0, none⟩)), (3, .int .i64 out), (4, .slice (some ⟨b0, 0, none⟩) old.length cap), (5, .slice (some ⟨b0, 0, none⟩) (kept.length + 1) cap), (48, .slice (some ⟨b0, 0, none⟩) old.length cap), (49, .int .i64 old.length), (50, .int .i64 m), (7, .int .i64 i), (8, .slice (some ⟨bc, 0, none⟩) c1.length capc)]) (fun _ w2 => w2 = w8 ∧ ¬ ofv s3 (rd c1 0) = -1) ?_ ?_
    · refine FC.seq (FC.region ?_)
      refine mv_ rfl rfl rfl ?_
      refine mv_ rfl rfl rfl ?_
      refine FL.pur rfl rfl (idx41 rfl rfl (by omega) (by omega)) ?_
      refine FL.val _ _ rfl rfl (p_load rfl Try.underlying3 rfl hcell8) ?_
      refine FL.call rfl rfl (p_call Try.func33 rfl rfl rfl) (hof8 _ hL0) ?_
      rintro e_ w_ ⟨rfl, rfl⟩
      refine ⟨_, rfl, ?_⟩
      refine FL.pur rfl rfl (p_eql rfl rfl rfl) ?_
      refine FL.nilK ?_
      refine FC.cond (decide (ofv s3 (rd c1 0) = -1)) rfl (fun hc => ?_) (fun hc => FC.skip ⟨(), ⟨rfl, rfl, rfl, rfl, rfl, rfl, rfl, rfl, rfl, trivial⟩, rfl, of_decide_eq_false hc⟩)
      have hm1 : ofv s3 (rd c1 0) = -1 := of_decide_eq_true hc
      obtain ⟨kept2, hk2⟩ : ∃ kept2, kept ++ [i] = kept2 := ⟨_, rfl⟩
      have hk2l : kept2.length = kept.length + 1 := by rw [← hk2]; simp
      rw [hk2] at h8
      have h9 := h8.drew
      have hcqo : 0 ≤ codeL out ∧ codeL out < 2 * (n : Int) := hcq
      have hwl9 : (setRow (setCl s3 i c1) q0 (kept2 ++ old.drop kept2.length)).watch.length = 2 * n := by show (s3.watch.set q0 _).length = 2 * n; rw [List.length_set]; exact hlw3
      obtain ⟨bo9, co9, hvo9, _, _⟩ := h9.formOf .watch (2 * n) (by simp only [C]; rw [rowsOf_length, hwl9]) (by omega)
      have hcwq := h9.cell .watch hvo9 (codeL out).toNat (v := V3 (.wrow q0)) ((rowsOf_get (fun i => V3 (.wrow i)) _ (codeL out).toNat (by rw [hwl9]; omega)).trans (by rw [hq0]))
      have hS9 := cellEq h9.f_watch hvo9
      have hgd9 : (setRow (setCl s3 i c1) q0 (kept2 ++ old.drop kept2.length)).watch.getD q0 [] = kept2 ++ old.drop kept2.length := setRow_getD (setCl s3 i c1) q0 _ hq03
      have hpl9 : (kept2 ++ old.drop kept2.length).length = old.length := by simp; omega
      obtain ⟨h10, G10⟩ := Srch.storeRowMany (q := q0) (old.drop (m + 1)) kept2.length _ _ h9 (by rw [hwl9]; omega) hvw3 (by rw [hgd9]; exact hpl9) (by simp; omega)
      rw [hgd9, setRow_setRow] at h10
      have hL10 : (kept2 ++ old.drop kept2.length).take kept2.length ++ old.drop (m + 1) ++ (kept2 ++ old.drop kept2.length).drop (kept2.length + (old.drop (m + 1)).length) = (kept2 ++ old.drop (m + 1)) ++ (kept2 ++ old.drop kept2.length).drop (kept2.length + (old.drop (m + 1)).length) := by rw [List.take_left]
      rw [hL10] at h10
      have hgd10 : (setRow (setCl s3 i c1) q0 ((kept2 ++ old.drop (m + 1)) ++ (kept2 ++ old.drop kept2.length).drop (kept2.length + (old.drop (m + 1)).length))).watch.getD q0 [] = (kept2 ++ old.drop (m + 1)) ++ (kept2 ++ old.drop kept2.length).drop (kept2.length + (old.drop (m + 1)).length) := setRow_getD (setCl s3 i c1) q0 _ hq03
      obtain ⟨h11, G11⟩ := h10.cutRow (q := q0) (k := kept2.length + (old.length - (m + 1))) hvw3 (by omega) hvo9 (by show q0 < (s3.watch.set q0 _).length; rw [List.length_set]; exact hq03)
      have htk : ((kept2 ++ old.drop (m + 1)) ++ (kept2 ++ old.drop kept2.length).drop (kept2.length + (old.drop (m + 1)).length)).take (kept2.length + (old.length - (m + 1))) = kept2 ++ old.drop (m + 1) := by
        rw [show kept2.length + (old.length - (m + 1)) = (kept2 ++ old.drop (m + 1)).length by simp, List.take_left]
      rw [hgd10, setRow_setRow, htk] at h11
      have hmI : (m : Int) + 1 = ((m + 1 : Nat) : Int) := by omega
      have hS10 := cellEq h10.f_watch hvo9
      have hcwq10 := h10.cell .watch hvo9 (codeL out).toNat (v := V3 (.wrow q0)) ((rowsOf_get (fun i => V3 (.wrow i)) _ (codeL out).toNat (by show _ < (s3.watch.set q0 _).length; rw [List.length_set]; omega)).trans (by rw [hq0]))
      have hnewsC : ∀ j u, (nums .i64 (old.drop (m + 1)))[j]? = some u → w8.drew.cell? ((⟨b0, m + 1, none⟩ : Addr).add j) = some u := by
        intro j u hj
        rw [addr_add]
        refine h9.cell (.wrow q0) hvw3 _ ?_
        simp only [C]
        rw [hgd9]
        simp only [nums, List.getElem?_map, List.getElem?_drop] at hj ⊢
        rw [List.getElem?_append_right (by omega), List.getElem?_drop]
        rw [show kept2.length + (m + 1 + j - kept2.length) = m + 1 + j by omega]
        exact hj
      have hq0c : (codeL out).toNat = q0 := hq0
      have hz2 : kept.length + 1 ≤ cap := by omega
      have hz3 : kept.length + 1 + (old.length - (m + 1)) ≤ cap := by omega
      have hret : prop (n + 1 - s.head.toNat) s = (setRow (setCl s3 i c1) q0 (kept2 ++ old.drop (m + 1)), i) := by
        rw [← hp1]
        obtain ⟨f, hf⟩ : ∃ f, n + 1 - s1.head.toNat = f + 1 := ⟨n - s1.head.toNat, by omega⟩
        rw [hf]
        have hnx : nextS s1 = (setRow (setCl s3 i c1) q0 (kept2 ++ old.drop (m + 1)), some i) := by
          rw [← hin]
          simp only [inner, hc1, if_neg hne1, hnone, if_pos hm1]
          rw [← hk2, List.append_assoc, List.singleton_append]
        simp only [prop, if_pos hlt, hnx]
      by_cases hend : old.length = m + 1
      · have hd0 : old.drop (m + 1) = [] := List.drop_eq_nil_of_le (by omega)
        have hz1 : old.length - ((m + 1 : Nat) : Int).toNat = 0 := by rw [mb5, hend, Nat.sub_self]
        refine FC.seq (FC.draw (fun w => w.cell? ⟨g, 2, none⟩ = some (.slice (some ⟨bo9, 0, none⟩) (2 * n) co9)) [13] (bA 14 0) (by kernel_rfl) rfl rfl hS9 ?_)
        refine FA.pur (i := 0) (bA 14 1) rfl (by kernel_rfl) rfl rfl (p_move rfl) ?_
        refine FA.pur (i := 1) (bA 14 3) rfl (by kernel_rfl) rfl rfl (p_nilCheck rfl) ?_
        refine FA.pur (i := 2) (bA 14 7) rfl (by kernel_rfl) rfl rfl (fld67_2 rfl) ?_
        refine FA.pur (i := 4) (bA 14 23) rfl (by kernel_rfl) rfl rfl (p_move rfl) ?_
        refine FA.pur (i := 6) (bA 14 87) rfl (by kernel_rfl) rfl rfl (p_move rfl) ?_
        refine FA.pur (i := 7) (bA 14 215) rfl (by kernel_rfl) rfl rfl (p_move rfl) ?_
        refine FA.pur (i := 8) (bA 14 471) rfl (by kernel_rfl) rfl rfl (p_move rfl) ?_
        refine FA.pur (i := 9) (bA 14 983) rfl (by kernel_rfl) rfl rfl (p_add rfl rfl ((wr mb1 mb2).trans hmI)) ?_
        refine FA.pur (i := 10) (bA 14 2007) rfl (by kernel_rfl) rfl rfl (from41E rfl rfl mb3 mb4 rfl hz1 rfl) ?_
        refine FA.lod (i := 3) (bA 14 2015) rfl (by kernel_rfl) rfl rfl hS9 (fun _ hs => p_load rfl Try.underlying22 rfl hs) ?_
        refine FA.tell (i := 5) (bA 14 2047) rfl (by kernel_rfl) rfl rfl hS9 (fun _ _ => p_call Try.func47 rfl rfl rfl) (fun _ hs => code_calls out _ ob1 ob2) ?_
        refine FA.one (i := 11) _ _ (bA 14 4095) rfl (by kernel_rfl) (by decide) rfl rfl (appNil41 rfl rfl hz2) hS9 ?_
        refine FA.pur (i := 12) (bA 14 8191) rfl (by kernel_rfl) rfl rfl (idx22 rfl rfl qb1 qb2) ?_
        refine FA.lastS (i := 13) _ (bA 14 16383) rfl (by kernel_rfl) (by decide) rfl (st41 rfl rfl rfl hcwq (h9.unfr .watch hvo9 _)) ?_
        refine FA.doneK (by kernel_rfl) ?_
        refine FC.seq (FC.region ?_)
        refine mv_ rfl rfl rfl ?_
        refine sg_ rfl rfl rfl ?_
        refine FL.nilK ?_
        refine FC.ret ?_
        repeat with_reducible first | refine thn_ret ?_ | refine blk_ret ?_ | refine nog_ret ?_
        have e5 : kept2.length + (old.length - (m + 1)) = kept.length + 1 := by omega
        rw [hd0] at h11 G11 h10 G10
        simp only [nums, List.map_nil, World.setCells] at h11 G11 G10
        rw [hq0c]
        rw [e5] at h11 G11
        rw [List.append_nil] at h11
        refine ret1 Try.results37 rfl ⟨by rw [hret], _, by rw [hret, hd0, List.append_nil]; exact h11, (G8'.drew.trans G10).trans G11⟩
      · have hA : (if cap = ((m + 1 : Nat) : Int).toNat then (some ⟨b0, 0, none⟩ : Option Addr) else (some (⟨b0, 0, none⟩ : Addr)).map (·.add ((m + 1 : Nat) : Int).toNat)) = some ⟨b0, m + 1, none⟩ := by
          rw [if_neg (by omega)]
          simp [Addr.add]
        refine FC.seq (FC.draw (fun w => w.cell? ⟨g, 2, none⟩ = some (.slice (some ⟨bo9, 0, none⟩) (2 * n) co9)) [13] (bA 14 0) (by kernel_rfl) rfl rfl hS9 ?_)
        refine FA.pur (i := 0) (bA 14 1) rfl (by kernel_rfl) rfl rfl (p_move rfl) ?_
        refine FA.pur (i := 1) (bA 14 3) rfl (by kernel_rfl) rfl rfl (p_nilCheck rfl) ?_
        refine FA.pur (i := 2) (bA 14 7) rfl (by kernel_rfl) rfl rfl (fld67_2 rfl) ?_
        refine FA.pur (i := 4) (bA 14 23) rfl (by kernel_rfl) rfl rfl (p_move rfl) ?_
        refine FA.pur (i := 6) (bA 14 87) rfl (by kernel_rfl) rfl rfl (p_move rfl) ?_
        refine FA.pur (i := 7) (bA 14 215) rfl (by kernel_rfl) rfl rfl (p_move rfl) ?_
        refine FA.pur (i := 8) (bA 14 471) rfl (by kernel_rfl) rfl rfl (p_move rfl) ?_
        refine FA.pur (i := 9) (bA 14 983) rfl (by kernel_rfl) rfl rfl (p_add rfl rfl ((wr mb1 mb2).trans hmI)) ?_
        refine FA.pur (i := 10) (bA 14 2007) rfl (by kernel_rfl) rfl rfl (from41E rfl rfl mb3 mb4 hA mb5 rfl) ?_
        refine FA.lod (i := 3) (bA 14 2015) rfl (by kernel_rfl) rfl rfl hS9 (fun _ hs => p_load rfl Try.underlying22 rfl hs) ?_
        refine FA.tell (i := 5) (bA 14 2047) rfl (by kernel_rfl) rfl rfl hS9 (fun _ _ => p_call Try.func47 rfl rfl rfl) (fun _ hs => code_calls out _ ob1 ob2) ?_
        refine FA.one (i := 11) _ _ (bA 14 4095) rfl (by kernel_rfl) (by decide) rfl rfl (appIn41 rfl rfl (news := nums .i64 (old.drop (m + 1))) (by simp [nums]) hnewsC (by intro u hu; simp only [nums, List.mem_map] at hu; obtain ⟨x, _, rfl⟩ := hu; rfl) hz3 (fun j hj => by obtain ⟨y, hy⟩ := nums_some .i64 (kept2 ++ old.drop kept2.length) (kept.length + 1 + j) (by omega); rw [h9.cell (.wrow q0) hvw3 (kept.length + 1 + j) (v := y) (by simp only [C]; rw [hgd9]; exact hy)]; rfl) (fun j => h9.unfr _ hvw3 j)) (by rw [← hk2l]; exact hS10) ?_
        refine FA.pur (i := 12) (bA 14 8191) rfl (by kernel_rfl) rfl rfl (idx22 rfl rfl qb1 qb2) ?_
        refine FA.lastS (i := 13) _ (bA 14 16383) rfl (by kernel_rfl) (by decide) rfl (st41 rfl rfl rfl (by rw [← hk2l]; exact hcwq10) (by rw [← hk2l]; exact h10.unfr .watch hvo9 _)) ?_
        refine FA.doneK (by kernel_rfl) ?_
        refine FC.seq (FC.region ?_)
        refine mv_ rfl rfl rfl ?_
        refine sg_ rfl rfl rfl ?_
        refine FL.nilK ?_
        refine FC.ret ?_
        repeat with_reducible first | refine thn_ret ?_ | refine blk_ret ?_ | refine nog_ret ?_
        rw [hq0c]
        rw [hk2l] at h11 G11 G10
        refine ret1 Try.results37 rfl ⟨by rw [hret], _, by rw [hret]; exact h11, (G8'.drew.trans G10).trans G11⟩
    rintro _ w9 ⟨rfl, hne2⟩
    have hsm := ofv_small (s := s3) (n := n) hI1.good.value hI1.good.small hL0
    have h00 : ofv s3 (rd c1 0) = 0 := by omega
    have hgk := hI1.good
    refine FC.region ?_
    refine mv_ rfl rfl rfl ?_
    refine mv_ rfl rfl rfl ?_
    refine FL.pur rfl rfl (idx41 rfl rfl (by omega) (by omega)) ?_
    refine FL.val _ _ rfl rfl (p_load rfl Try.underlying3 rfl hcell8) ?_
    refine mv_ rfl rfl rfl ?_
    refine FL.call rfl rfl (p_call Try.func46 rfl rfl rfl) (set_calls h8 (rd c1 0) i (by have e : s3.value.length = n := hgk.value; show -(s3.value.length : Int) < _; rw [e]; exact hL0.1) (by have e : s3.value.length = n := hgk.value; show _ < (s3.value.length : Int); rw [e]; exact hL0.2) (by have e : s3.value.length = n := hgk.value; have e' : s3.level.length = n := hgk.level; show s3.level.length = s3.value.length; rw [e, e']) (by have e : s3.value.length = n := hgk.value; have e' : s3.reason.length = n := hgk.reason; show s3.reason.length = s3.value.length; rw [e, e']) (by have e : s3.trail.length + zeros s3.value ≤ n := hgk.tr; show s3.trail.length < 1099511627776; omega)) ?_
    rintro e_ w_ ⟨rfl, v', h12, G12⟩
    refine ⟨_, rfl, ?_⟩
    refine FL.nil ?_
    refine blk_normal (thn_normal ⟨(setS (setCl s3 i c1) (rd c1 0) i, kept ++ [i], upd V3 .trail v'), ⟨rfl, rfl, rfl, by show some (Value.slice (some ⟨b0, 0, none⟩) (kept.length + 1) cap) = _; simp, rfl, rfl, rfl, trivial⟩, h12, G8'.trans G12, hI1.kept.take hL0 hz0 h00, ?_, ?_, by simp; omega, hhd⟩)
    · rw [← hin]
      simp only [inner, hc1, if_neg hne1, hnone, if_neg hne2]
    · show upd V3 .trail v' (.wrow q0) = _
      rw [upd_ne _ _ (by simp)]; exact hvw3
  · rintro ⟨s6, kept, V6⟩ w6 ⟨h6, G6, hI6, hn6, hvw6, hkl, hhd⟩
    simp only at h6 G6 hI6 hn6 hvw6 hkl hhd
    have hlw6 := hI6.lenw
    have h7 := h6.drew
    have hwl7 : (setRow s6 q0 (kept ++ old.drop kept.length)).watch.length = 2 * n := by show (s6.watch.set q0 _).length = 2 * n; rw [List.length_set]; exact hlw6
    obtain ⟨bo7, co7, hvo7, _, _⟩ := h7.formOf .watch (2 * n) (by simp only [C]; rw [rowsOf_length, hwl7]) (by omega)
    have hcwq := h7.cell .watch hvo7 (codeL out).toNat (v := V6 (.wrow q0)) ((rowsOf_get (fun i => V6 (.wrow i)) _ (codeL out).toNat (by rw [hwl7]; omega)).trans (by rw [hq0]))
    have hS7 := cellEq h7.f_watch hvo7
    obtain ⟨h8, G8⟩ := h7.cutRow (q := q0) (k := kept.length) hvw6 hkl hvo7 (by rw [hwl7]; omega)
    have hgd7 : (setRow s6 q0 (kept ++ old.drop kept.length)).watch.getD q0 [] = kept ++ old.drop kept.length := setRow_getD s6 q0 _ (by omega)
    rw [hgd7, setRow_setRow, List.take_left] at h8
    refine (FC.draw (fun w => w.cell? ⟨g, 2, none⟩ = some (.slice (some ⟨bo7, 0, none⟩) (2 * n) co7)) [8] (bA 9 0) (by kernel_rfl) rfl rfl hS7 ?_)
    refine FA.pur (i := 0) (bA 9 1) rfl (by kernel_rfl) rfl rfl (p_move rfl) ?_
    refine FA.pur (i := 1) (bA 9 3) rfl (by kernel_rfl) rfl rfl (p_nilCheck rfl) ?_
    refine FA.pur (i := 2) (bA 9 7) rfl (by kernel_rfl) rfl rfl (fld67_2 rfl) ?_
    refine FA.pur (i := 4) (bA 9 23) rfl (by kernel_rfl) rfl rfl (p_move rfl) ?_
    refine FA.pur (i := 6) (bA 9 87) rfl (by kernel_rfl) rfl rfl (p_move rfl) ?_
    refine FA.lod (i := 3) (bA 9 95) rfl (by kernel_rfl) rfl rfl hS7 (fun _ hs => p_load rfl Try.underlying22 rfl hs) ?_
    refine FA.tell (i := 5) (bA 9 127) rfl (by kernel_rfl) rfl rfl hS7 (fun _ _ => p_call Try.func47 rfl rfl rfl) (fun _ hs => code_calls out _ ob1 ob2) ?_
    refine FA.pur (i := 7) (bA 9 255) rfl (by kernel_rfl) rfl rfl (idx22 rfl rfl (by omega) (by omega)) ?_
    refine FA.lastS (i := 8) _ (bA 9 511) rfl (by kernel_rfl) (by decide) rfl (st41 rfl rfl rfl hcwq (h7.unfr .watch hvo7 _)) ?_
    refine FA.done (by kernel_rfl) ?_
    rw [hq0]
    have hgood := hI6.good
    rw [List.append_nil] at hgood
    refine nog_normal (blk_normal (thn_normal ⟨(setRow s6 q0 kept, _), ⟨rfl, trivial⟩, ⟨h8, G6.drew.trans G8, hgood, ?_⟩, ?_⟩))
    · rw [← hp1]
      obtain ⟨f, hf⟩ : ∃ f, n + 1 - s1.head.toNat = f + 1 := ⟨n - s1.head.toNat, by omega⟩
      have hf2 : n + 1 - (setRow s6 q0 kept).head.toNat = f := by show n + 1 - s6.head.toNat = f; rw [hhd]; omega
      rw [hf, hf2]
      conv => rhs; unfold prop
      simp only [if_pos hlt, hn6]
    · show n - s6.head.toNat < n - s1.head.toNat
      rw [hhd]; omega
end
end Go.Proofs.Ytcahhbcehnbdkaa.Sv

/- Walk of (*search).follows. -/
namespace Go.Proofs.Ytcahhbcehnbdkaa.Sv
open Go.RowKit Go.Proofs.YtcahhbcehnbdkaaW.PrintWords Go.Proofs.YtcahhbcehnbdkaaW.PrintLast Go.Proofs.Ytcahhbcehnbdkaa.Eng

section
variable {w w1 : World} {B g0 : Nat} {s s' : S} {V : Lay}
theorem Srch.pushMarks (h : Srch w B g0 s V) (x : Int) {v1 : Value} (hg : Grew w V .marks B 3 (C s V .marks ++ [.int .i64 x]) v1 w1) :
    Srch (w1.setCell ⟨g0, 8, none⟩ v1) B g0 { s with marks := s.marks ++ [x] } (upd V .marks v1) ∧ Goes g0 V w (upd V .marks v1) (w1.setCell ⟨g0, 8, none⟩ v1) := by
  refine h.grew (s' := { s with marks := s.marks ++ [x] }) .marks 8 hg ?_ (fun r' hr => ?_) ?_ rfl rfl rfl (fun i => ⟨by simp, by simp, by simp⟩)
  · simp [cellsS, upd]
  · cases r' <;> simp_all [C, upd]
  · simp [C, nums]
theorem Row.goes {v : Value} {d : List Int} {V' : Lay} {w' : World} (h : Row w B v d) (hs : Srch w B g0 s V) (hg : Goes g0 V w V' w') : Row w' B v d := h.fr hg.fr fun k hk hf => by have := hs.ge hf; omega
theorem assume_drop (s : S) (c : List Int) (i : Nat) (hi : i < c.length) : assume s (c.drop i) = if ofv s (g c i) = 1 then (s, true) else assume (if ofv s (g c i) = 0 then setS s (-(g c i)) (-1) else s) (c.drop (i + 1)) := by
  rw [drop_g c i hi]
  rfl

set_option maxHeartbeats 2000000 in
theorem follows_calls {Φ : List (List Int)} {n T : Nat} {v : Value} {c : List Int} (h : Srch w B g0 s V) (hS : Still Φ s n T) (hr : Row w B v c) (hc : ∀ l ∈ c, Lit n l ∧ l ≠ 0) (hlen : c.length < 1099511627776) :
    Calls Try.prog 38 #[.pointer (some ⟨g0, 0, none⟩), v] w fun e w' => e = .returned (.bool (followsS n s c).2) ∧ ∃ V', Srch w' B g0 (followsS n s c).1 V' ∧ Goes g0 V w V' w' := by
  obtain ⟨A, cap, rfl, hcell⟩ := hr
  have hg := hS.ok.good
  have hnm := hg.nmax
  have htr := hg.tr
  -- what the plain law says of the states behind
  obtain ⟨As, hAs⟩ : ∃ As : Int → Prop, As = fun l => -l ∈ c := ⟨_, rfl⟩
  have hAiff : ∀ l, As l ↔ -l ∈ c := fun l => by rw [hAs]
  have o1 : Ok Φ As (markS s) n T [s.trail.length] := (((hS.ok.marks (s.marks ++ [(s.trail.length : Int)])).assuming fun l hl => (hS.ok.sound l hl).mono (fun _ h => h) fun _ h => h.elim).levels fun k hk => .inr ⟨List.mem_singleton.1 hk, hS.pro⟩)
  have hhd : (markS s).head.toNat = s.trail.length := by show s.head.toNat = _; rw [hS.head]; rfl
  have hcs : ∀ l, As l → Lit n l ∧ l ≠ 0 := fun l hl => by
    have := hc _ ((hAiff l).1 hl)
    exact ⟨by have := this.1.neg; rwa [Int.neg_neg] at this, by omega⟩
  obtain ⟨a1, a2, a3, a4, _, _, _⟩ := assume_ok (Φ := Φ) (A := As) hcs c (markS s) o1 (by rw [hhd]; exact hS.pro) fun l hl => (hAiff _).2 (by rwa [Int.neg_neg])
  have hmk : ∀ r : S, Ext (markS s) r → r.marks = [(s.trail.length : Int)] ∧ s.trail.length ≤ r.trail.length := fun r he => by
    obtain ⟨more, em⟩ := he.trail
    refine ⟨by rw [he.marks]; show s.marks ++ _ = _; rw [hS.marks]; rfl, ?_⟩
    rw [em]
    show s.trail.length ≤ (s.trail ++ more).length
    rw [List.length_append]; omega
  refine calls_of_FC (N := 50) (vs := [.pointer (some ⟨g0, 0, none⟩), .slice A c.length cap]) Try.func38 rfl Try.ntmps38 (Nat.le_of_ble_eq_true rfl) ?_
  refine FC.seq (FC.region ?_)
  refine sg_ rfl rfl rfl ?_
  refine FL.nilK ?_
  have hd := h.drew
  obtain ⟨At, ct, hvt, _, _⟩ := hd.lenOf .trail s.trail.length (by simp [C, nums])
  have hSS := And.intro hd.f_marks (cellEq hd.f_trail hvt)
  refine FC.seq (FC.draw (fun w => w.cell? ⟨g0, 8, none⟩ = some (V .marks) ∧ w.cell? ⟨g0, 7, none⟩ = some (.slice At s.trail.length ct)) [11, 14] (bA 15 0) (by kernel_rfl) rfl rfl hSS ?_)
  refine FA.pur (i := 0) (bA 15 1) rfl (by kernel_rfl) rfl rfl (p_move rfl) ?_
  refine FA.pur (i := 1) (bA 15 3) rfl (by kernel_rfl) rfl rfl (p_move rfl) ?_
  refine FA.pur (i := 2) (bA 15 7) rfl (by kernel_rfl) rfl rfl (p_nilCheck rfl) ?_
  refine FA.pur (i := 3) (bA 15 15) rfl (by kernel_rfl) rfl rfl (fld67_8 rfl) ?_
  refine FA.pur (i := 5) (bA 15 47) rfl (by kernel_rfl) rfl rfl (p_move rfl) ?_
  refine FA.pur (i := 6) (bA 15 111) rfl (by kernel_rfl) rfl rfl (p_nilCheck rfl) ?_
  refine FA.pur (i := 7) (bA 15 239) rfl (by kernel_rfl) rfl rfl (fld67_7 rfl) ?_
  refine FA.lod (i := 4) (bA 15 255) rfl (by kernel_rfl) rfl rfl hSS (fun _ hs => p_load rfl Try.underlying41 rfl hs.1) ?_
  refine FA.lod (i := 8) (bA 15 511) rfl (by kernel_rfl) rfl rfl hSS (fun _ hs => p_load rfl Try.underlying41 rfl hs.2) ?_
  refine FA.pur (i := 9) (bA 15 1023) rfl (by kernel_rfl) rfl rfl (p_len rfl Try.underlying41) ?_
  refine FA.one (i := 10) _ _ (bA 15 2047) rfl (by kernel_rfl) (by decide) rfl rfl (bld41 rfl rfl) ⟨cell_alloc hSS.1 _, cell_alloc hSS.2 _⟩ ?_
  refine FA.lastG (i := 11) _ (bA 15 4095) rfl (by kernel_rfl) (by decide) rfl rfl (hd.app3 .marks rfl (by simp only [C, nums, List.length_map]; rw [hS.marks]; decide) (s.trail.length : Int) rfl rfl) ?_
  intro v1 w6 hgw
  refine FA.pur (i := 12) (bA 15 8191) rfl (by kernel_rfl) rfl rfl (p_nilCheck rfl) ?_
  refine FA.pur (i := 13) (bA 15 16383) rfl (by kernel_rfl) rfl rfl (fld67_8 rfl) ?_
  refine FA.lastS (i := 14) _ (bA 15 32767) rfl (by kernel_rfl) (by decide) rfl (st41 rfl rfl (own_one hgw.own) (cell_of_row _ _ 8 _ _ _ (hd.objG hgw)) (blk_frozen (hd.objG hgw) 8)) ?_
  refine FA.doneK (by kernel_rfl) ?_
  obtain ⟨h1, G1⟩ := hd.pushMarks (s.trail.length : Int) hgw
  have G1 := (Goes.refl g0 V w).drew.trans G1
  refine FC.seq (FC.region ?_)
  refine sg_ rfl rfl rfl ?_
  refine FL.nilK ?_
  refine FC.cut (σ := S × Lay × Bool) (fun x => [(0, .pointer (some ⟨g0, 0, none⟩)), (1, .slice A c.length cap), (5, .bool x.2.2)]) (fun x w2 => Srch w2 B g0 x.1 x.2.1 ∧ Goes g0 V w x.2.1 w2 ∧ assume (markS s) c = (x.1, x.2.2)) ?_ ?_
  · refine FC.seq (FC.region ?_)
    refine mv_ rfl rfl rfl ?_
    refine FL.pur rfl rfl (p_len rfl Try.underlying41) ?_
    refine mv_ rfl rfl rfl ?_
    refine FL.nilK ?_
    refine FC.block ?_
    refine FC.loop (σ := S × Lay × Nat) (fun x => [(0, .pointer (some ⟨g0, 0, none⟩)), (1, .slice A c.length cap), (5, .bool false), (22, .slice A c.length cap), (23, .int .i64 c.length), (24, .int .i64 x.2.2)]) (fun x w2 => Srch w2 B g0 x.1 x.2.1 ∧ Goes g0 V w x.2.1 w2 ∧ Good x.1 n T ∧ x.2.2 ≤ c.length ∧ assume x.1 (c.drop x.2.2) = assume (markS s) c)
      (fun x => c.length - x.2.2) (markS s, upd V .marks v1, 0) ⟨h1, G1, o1.good, Nat.zero_le _, by rw [List.drop_zero]⟩ ⟨rfl, rfl, rfl, rfl, rfl, rfl, trivial⟩ ?_
    rintro ⟨s1, V1, i⟩ w2 ⟨h2, G2, g2, hi, hres⟩
    simp only at h2 G2 g2 hi hres ⊢
    refine FC.seq (FC.region ?_)
    refine FL.pur rfl rfl (p_lss rfl rfl rfl) ?_
    refine FL.nilK ?_
    refine FC.seq ?_
    refine FC.cond (decide ((i : Int) < (c.length : Int))) rfl (fun hcc => FC.skip (thn_normal ?_)) (fun hcc => FC.exit ?_)
    rotate_left
    · have hge : ¬ (i : Int) < (c.length : Int) := of_decide_eq_false hcc
      have e : c.drop i = [] := List.drop_eq_nil_iff.2 (by omega)
      rw [e] at hres
      exact thn_exit (thn_exit (blk_exit ⟨(s1, V1, false), ⟨rfl, rfl, rfl, trivial⟩, h2, G2, hres.symm⟩))
    have hlt : i < c.length := by have := of_decide_eq_true hcc; omega
    obtain ⟨ad, rfl, hadB, hc0⟩ := hcell i hlt
    have hc1 : w2.cell? (ad.add i) = some (.int .i64 (g c i)) := G2.fr.cell hc0 (fun hf => by rw [add_block] at hf; have := h.ge hf; omega)
    obtain ⟨hL, hz⟩ := hc (g c i) (rd_mem c i (by omega) (by omega))
    have hsm := ofv_small g2.value g2.small hL
    rw [assume_drop s1 c i hlt] at hres
    obtain ⟨hL1, hL2⟩ := hL
    have hLa : -(s1.value.length : Int) < g c i := by rw [g2.value]; exact hL1
    have hLb : g c i < (s1.value.length : Int) := by rw [g2.value]; exact hL2
    refine FC.seq ?_
    refine FC.block ?_
    refine FC.seq (FC.region ?_)
    refine FL.pur rfl rfl (p_indexA rfl rfl Try.underlying41 inf3_eq inf3_size (by omega) (by omega)) ?_
    refine FL.val _ _ rfl rfl (p_load rfl Try.underlying3 rfl hc1) ?_
    refine sg_ rfl rfl rfl ?_
    refine FL.nilK ?_
    refine FC.seq ?_
    refine FC.seq (FC.region ?_)
    refine mv_ rfl rfl rfl ?_
    refine mv_ rfl rfl rfl ?_
    refine FL.call rfl rfl (p_call Try.func33 rfl rfl rfl) (of_calls h2 (g c i) hLa hLb g2.small) ?_
    rintro e_ w_ ⟨rfl, rfl⟩
    refine ⟨_, rfl, ?_⟩
    refine FL.pur rfl rfl (p_eql rfl rfl rfl) ?_
    refine FL.nilK ?_
    refine FC.cond (decide (ofv s1 (g c i) = 1)) rfl (fun hc => ?_) (fun hc => FC.skip (thn_normal ?_))
    · rw [if_pos (of_decide_eq_true hc)] at hres
      refine FC.seq (FC.region ?_)
      refine sg_ rfl rfl rfl ?_
      refine FL.nilK ?_
      refine FC.exit ?_
      repeat (first | with_reducible refine thn_exit ?_ | with_reducible refine nog_exit ?_ | with_reducible refine blk_pass (by decide) ?_)
      exact blk_exit ⟨(s1, V1, true), ⟨rfl, rfl, rfl, trivial⟩, h2, G2, hres.symm⟩
    rw [if_neg (of_decide_eq_false hc)] at hres
    refine FC.seq (FC.region ?_)
    refine mv_ rfl rfl rfl ?_
    refine mv_ rfl rfl rfl ?_
    refine FL.call rfl rfl (p_call Try.func33 rfl rfl rfl) (of_calls h2 (g c i) hLa hLb g2.small) ?_
    rintro e_ w_ ⟨rfl, rfl⟩
    refine ⟨_, rfl, ?_⟩
    refine FL.pur rfl rfl (p_eql rfl rfl rfl) ?_
    refine FL.nilK ?_
    refine FC.cond (decide (ofv s1 (g c i) = 0)) rfl (fun hc => ?_) (fun hc => FC.skip ?_)
    · have h0 := of_decide_eq_true hc
      rw [if_pos h0] at hres
      refine FC.region ?_
      refine mv_ rfl rfl rfl ?_
      refine mv_ rfl rfl rfl ?_
      refine FL.pur rfl rfl (p_neg rfl (wr (by omega) (by omega))) ?_
      refine FL.call rfl rfl (p_call Try.func46 rfl rfl rfl) (set_calls h2 (-(g c i)) (-1) (by omega) (by omega) (by rw [g2.level, g2.value]) (by rw [g2.reason, g2.value]) (by have := g2.tr; omega)) ?_
      rintro e_ w_ ⟨rfl, v', h3, G3⟩
      refine ⟨_, rfl, ?_⟩
      refine FL.nil ?_
      refine blk_normal (thn_normal ?_)
      refine FC.region ?_
      refine FL.pur rfl rfl (p_add rfl rfl ((wr (by omega) (by omega)).trans (show (i : Int) + 1 = ((i + 1 : Nat) : Int) by omega))) ?_
      refine mv_ rfl rfl rfl ?_
      refine FL.nil ?_
      exact ⟨(setS s1 (-(g c i)) (-1), upd V1 .trail v', i + 1), ⟨rfl, rfl, rfl, rfl, rfl, rfl, trivial⟩, ⟨h3, G2.trans G3, g2.setS (Lit.neg ⟨hL1, hL2⟩) (by omega) (by rw [ofv_neg hz, h0]; rfl), hlt, hres⟩, by show c.length - (i + 1) < c.length - i; omega⟩
    · have h0 := of_decide_eq_false hc
      rw [if_neg h0] at hres
      refine blk_normal (thn_normal ?_)
      refine FC.region ?_
      refine FL.pur rfl rfl (p_add rfl rfl ((wr (by omega) (by omega)).trans (show (i : Int) + 1 = ((i + 1 : Nat) : Int) by omega))) ?_
      refine mv_ rfl rfl rfl ?_
      refine FL.nil ?_
      exact ⟨(s1, V1, i + 1), ⟨rfl, rfl, rfl, rfl, rfl, rfl, trivial⟩, ⟨h2, G2, g2, hlt, hres⟩, by show c.length - (i + 1) < c.length - i; omega⟩
  rintro ⟨s1, V1, b⟩ w2 ⟨h2, G2, hres⟩
  simp only at h2 G2 hres ⊢
  rw [hres] at a1 a2 a3 a4
  simp only at a1 a2 a3 a4
  cases b with
  | true =>
    refine FC.seq (FC.region ?_)
    refine mv_ rfl rfl rfl ?_
    refine mv_ rfl rfl rfl ?_
    refine FL.off rfl rfl ?_
    refine FL.off rfl rfl ?_
    refine FL.off rfl rfl ?_
    refine FL.pur rfl rfl (p_pick_t rfl rfl) ?_
    refine sg_ rfl rfl rfl ?_
    refine FL.nilK ?_
    obtain ⟨m1, m2⟩ := hmk s1 a3
    refine FC.seq (FC.region ?_)
    refine mv_ rfl rfl rfl ?_
    refine FL.call rfl rfl (p_call Try.func48 rfl rfl rfl) (undo_calls h2 0 a1.good.value (by decide) (by rw [m1]; show (0 : Int) < 1; decide) (by rw [m1]; exact Int.natCast_nonneg _) a1.good.trl (by rw [m1]; show (s.trail.length : Int) ≤ _; omega)) ?_
    rintro e_ w_ ⟨rfl, V3, h3, G3⟩
    refine ⟨_, rfl, ?_⟩
    refine FL.nilK ?_
    refine FC.seq (FC.region ?_)
    refine mv_ rfl rfl rfl ?_
    refine sg_ rfl rfl rfl ?_
    refine FL.nilK ?_
    refine FC.ret ?_
    repeat with_reducible first | refine thn_ret ?_ | refine blk_ret ?_ | refine nog_ret ?_
    have e : followsS n s c = (undoS s1 0, true) := by unfold followsS; rw [hres]; rfl
    rw [e]
    exact ret1 Try.results38 rfl ⟨rfl, V3, h3, G2.trans G3⟩
  | false =>
    obtain ⟨p1, p2, _⟩ := prop_ok (Φ := Φ) (A := As) (n + 1 - s1.head.toNat) s1 (by have := a1.good.hd1; have := a1.good.tr; omega) a1 a2
    refine FC.seq (FC.region ?_)
    refine mv_ rfl rfl rfl ?_
    refine mv_ rfl rfl rfl ?_
    refine mv_ rfl rfl rfl ?_
    refine FL.call rfl rfl (p_call Try.func37 rfl rfl rfl) (propagate_calls h2 a1.good) ?_
    rintro e_ w_ ⟨rfl, V3, h3, G3⟩
    refine ⟨_, rfl, ?_⟩
    refine FL.pur rfl rfl (p_geq rfl rfl rfl) ?_
    refine FL.pur rfl rfl (p_pick_f rfl rfl) ?_
    refine sg_ rfl rfl rfl ?_
    refine FL.nilK ?_
    obtain ⟨m1, m2⟩ := hmk _ (a3.trans p2)
    refine FC.seq (FC.region ?_)
    refine mv_ rfl rfl rfl ?_
    refine FL.call rfl rfl (p_call Try.func48 rfl rfl rfl) (undo_calls h3 0 p1.good.value (by decide) (by rw [m1]; show (0 : Int) < 1; decide) (by rw [m1]; exact Int.natCast_nonneg _) p1.good.trl (by rw [m1]; show (s.trail.length : Int) ≤ _; omega)) ?_
    rintro e_ w_ ⟨rfl, V4, h4, G4⟩
    refine ⟨_, rfl, ?_⟩
    refine FL.nilK ?_
    refine FC.seq (FC.region ?_)
    refine mv_ rfl rfl rfl ?_
    refine sg_ rfl rfl rfl ?_
    refine FL.nilK ?_
    refine FC.ret ?_
    repeat with_reducible first | refine thn_ret ?_ | refine blk_ret ?_ | refine nog_ret ?_
    have e : followsS n s c = (undoS (prop (n + 1 - s1.head.toNat) s1).1 0, decide (0 ≤ (prop (n + 1 - s1.head.toNat) s1).2)) := by unfold followsS; rw [hres]; rfl
    rw [e]
    exact ret1 Try.results38 rfl ⟨rfl, V4, h4, (G2.trans G3).trans G4⟩
end
end Go.Proofs.Ytcahhbcehnbdkaa.Sv
