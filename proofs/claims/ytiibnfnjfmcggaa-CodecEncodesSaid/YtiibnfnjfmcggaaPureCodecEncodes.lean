/- The plain law of the statement CodecEncodes, for every input. -/
import Derived.Test.YtiibnfnjfmcggaaPCodecEncodesg
namespace Go.Proofs.Ytiibnfnjfmcggaa.Pure
open Go.RowKit Go.Proofs.Ytiibnfnjfmcggaa.PCodecEncodes Go.Proofs.YtiibnfnjfmcggaaW.PrintWords Go.Proofs.YtiibnfnjfmcggaaW.PrintLast Go.Proofs.YtiibnfnjfmcggaaW.PrintMore
set_option linter.unusedVariables false
set_option linter.unusedSimpArgs false

/-! ### plain laws: numbers as bytes -/
theorem w64i {x : Int} (h0 : -9223372036854775808 ≤ x) (h1 : x ≤ 9223372036854775807) : wrap64 x = x := by unfold wrap64; omega
theorem u64i {x : Int} (h0 : 0 ≤ x) (h1 : x ≤ 18446744073709551615) : IntKind.u64.wrap x = x := by
  simp only [IntKind.wrap, IntKind.bits, IntKind.signed]
  simp
  omega
theorem rounds_ex {k m : Nat} (h : m + 1 ≤ k) : ∃ j, k = j + 1 ∧ m ≤ j := ⟨k - 1, by omega, by omega⟩
def byteAt (n : Int) (j : Nat) : Int := n / 2 ^ (8 * j) % 256
def lowL (n : Int) (s : Nat) : List Int := (List.range' 0 s).map (byteAt n)
theorem byteAt_succ (n : Int) (j : Nat) : byteAt (n / 256) j = byteAt n (j + 1) := by
  unfold byteAt
  rw [Int.ediv_ediv_of_nonneg (by decide), show (2 : Int) ^ (8 * (j + 1)) = 256 * 2 ^ (8 * j) by rw [show 8 * (j + 1) = 8 * j + 8 by omega, Int.pow_add]; omega]
theorem shr_byte (n : Int) (i : Nat) (hi : i ≤ 8) : shr .i64 n (8 * (i : Int)) = n / 2 ^ (8 * i) := by
  unfold shr
  rw [show (8 * (i : Int)).toNat = 8 * i by omega, Nat.min_eq_left (by simp [IntKind.bits]; omega)]
def lowBad (n s : Int) : Bool := decide (s < 1) || decide (s > 8) || decide (n < 0) || decide (n > 4611686018427387904) || (decide (s < 8) && decide (n / 2 ^ (8 * s.toNat) ≠ 0))
def lowS (n s : Int) : List Int × Int := if lowBad n s then ([], 2) else (lowL n s.toNat, 0)

theorem word_low_l0 (n : Int) (s : Nat) (hs : s ≤ 8) : ∀ (d k i : Nat) (l : List Int), i + d = s → l.length = s → d < k →
    word_Low.l0 k n l (s : Int) (i : Int) = some (l.take i ++ (List.range' i d).map (byteAt n), 0) := by
  intro d
  induction d with
  | zero =>
    intro k i l h1 h2 hk
    obtain ⟨k, rfl, _⟩ := rounds_ex (m := 0) (by omega : 0 + 1 ≤ k)
    simp only [word_Low.l0]
    rw [if_neg (by omega), List.take_of_length_le (by omega)]
    simp
  | succ d ih =>
    intro k i l h1 h2 hk
    obtain ⟨k, rfl, hk'⟩ := rounds_ex (m := d + 1) (by omega : d + 1 + 1 ≤ k)
    have e : IntKind.u64.wrap (wrap64 (8 * (i : Int))) = 8 * (i : Int) := by rw [w64i (by omega) (by omega), u64i (by omega) (by omega)]
    simp only [word_Low.l0]
    rw [if_pos (by omega), e, if_pos (by omega), if_pos (by omega), if_pos (by omega), w64i (by omega) (by omega), shr_byte n i (by omega)]
    have := ih k (i + 1) (l.set (i : Int).toNat (n / 2 ^ (8 * i) % 256)) (by omega) (by simpa using h2) (by omega)
    rw [show (((i + 1 : Nat)) : Int) = (i : Int) + 1 by omega] at this
    rw [this]
    have e2 : (i : Int).toNat = i := by omega
    rw [e2, List.range'_succ, List.map_cons, List.take_succ_eq_append_getElem (by simp; omega), List.getElem_set_self, List.take_set_of_le (Nat.le_refl _), List.append_assoc]
    rfl

theorem word_low_bad (k : Nat) (n s : Int) (hk : 1 ≤ k) : word_Low.j0 k n s true = some ([], 2) := by
  obtain ⟨k, rfl, _⟩ := rounds_ex (m := 0) (by omega : 0 + 1 ≤ k)
  simp [word_Low.j0]
theorem word_low_good (k : Nat) (n s : Int) (h1 : 1 ≤ s) (h2 : s ≤ 8) (hk : 12 ≤ k) : word_Low.j0 k n s false = some (lowL n s.toNat, 0) := by
  obtain ⟨k, rfl, hk⟩ := rounds_ex (m := 11) (by omega : 11 + 1 ≤ k)
  simp only [word_Low.j0]
  rw [if_neg (by simp), if_pos (by omega), if_pos (by omega)]
  simp only [Option.bind_some, List.length_replicate]
  have := word_low_l0 n s.toNat (by omega) s.toNat k 0 (List.replicate s.toNat 0) (by omega) (by simp) (by omega)
  rw [show ((0 : Nat) : Int) = 0 by rfl] at this
  rw [this]
  simp [lowL]
theorem word_low (n s : Int) (k : Nat) (hk : 12 ≤ k) : word_Low.f k n s = some (lowS n s) := by
  unfold word_Low.f lowS lowBad
  by_cases h1 : s < 1
  · rw [if_pos h1, word_low_bad k n s (by omega)]; simp [h1]
  by_cases h2 : s > 8
  · rw [if_neg h1, if_pos h2, word_low_bad k n s (by omega)]; simp [h2]
  by_cases h3 : n < 0
  · rw [if_neg h1, if_neg h2, if_pos h3, word_low_bad k n s (by omega)]; simp [h3]
  by_cases h4 : n > 4611686018427387904
  · rw [if_neg h1, if_neg h2, if_neg h3, if_pos h4, word_low_bad k n s (by omega)]; simp [h4]
  rw [if_neg h1, if_neg h2, if_neg h3, if_neg h4]
  by_cases h5 : s < 8
  · have e : IntKind.u64.wrap (wrap64 (8 * s)) = 8 * s := by rw [w64i (by omega) (by omega), u64i (by omega) (by omega)]
    rw [if_pos h5, e, if_pos (by omega)]
    have e2 := shr_byte n s.toNat (by omega)
    rw [show ((s.toNat : Nat) : Int) = s by omega] at e2
    rw [e2]
    by_cases h6 : n / 2 ^ (8 * s.toNat) = 0
    · rw [h6, show ((0 : Int) != 0) = false by rfl, word_low_good k n s (by omega) (by omega) hk]
      simp [h1, h2, h3, h4]
    · rw [show ((n / 2 ^ (8 * s.toNat)) != 0) = true by simpa using h6, word_low_bad k n s (by omega)]
      simp [h5, h6]
  · rw [if_neg h5, word_low_good k n s (by omega) (by omega) hk]
    simp [h1, h2, h3, h4, h5]
theorem lowL_length (n : Int) (s : Nat) : (lowL n s).length = s := by simp [lowL]
theorem lowS_length (n s : Int) : (lowS n s).1.length ≤ 8 := by
  unfold lowS
  split
  · simp
  · rename_i h
    simp [lowBad] at h
    simp [lowL_length]; omega
theorem word_put (n s : Int) (k : Nat) (hk : 12 ≤ k) : word_Put.f k n s = some ((lowS n s).1.reverse, (lowS n s).2) := by
  unfold word_Put.f
  rw [word_low n s k hk]
  simp only [Option.bind_some, word_turned_byte.f]
  have := lowS_length n s
  rw [if_pos (by omega)]
  rfl

theorem lowL_succ (n : Int) (s : Nat) : lowL n (s + 1) = n % 256 :: lowL (n / 256) s := by
  unfold lowL
  rw [List.range'_succ, List.map_cons]
  congr 1
  · simp [byteAt]
  · apply List.ext_getElem (by simp)
    intro j _ _
    simp only [List.getElem_map, List.getElem_range', Nat.one_mul, Nat.zero_add]
    rw [byteAt_succ, Nat.add_comm]

/-! ### loops, by 'from some number of rounds on' -/
theorem w64w (a : Int) : wrap64 (wrap64 a) = wrap64 a := by unfold wrap64; omega
theorem w64l (a b : Int) : wrap64 (wrap64 a + b) = wrap64 (a + b) := by unfold wrap64; omega
theorem w64r (a b : Int) : wrap64 (a + wrap64 b) = wrap64 (a + b) := by unfold wrap64; omega
theorem w64mul (c a : Int) : wrap64 (c * wrap64 a) = wrap64 (c * a) := by
  have e : ∀ x : Int, wrap64 x = x - 18446744073709551616 * ((x + 9223372036854775808) / 18446744073709551616) := by intro x; unfold wrap64; omega
  rw [e a, Int.mul_sub, ← Int.mul_assoc, Int.mul_comm c 18446744073709551616, Int.mul_assoc]
  unfold wrap64
  omega
theorem w64lr (a b : Int) : wrap64 (wrap64 a + wrap64 b) = wrap64 (a + b) := by rw [w64l, w64r]
theorem ix_next (i : Nat) (h : (i : Int) < 9223372036854775807) : wrap64 ((i : Int) + 1) = ((i + 1 : Nat) : Int) := by rw [w64i (by omega) (by omega)]; omega
theorem Ev.some_ {α : Type} {g : Nat → Option α} {r : α} (h : ∀ k, g (k + 1) = some r) : Ev g r := Ev.step h (Ev.now r)
def tot {α : Type} (f : α → Int) : List α → Int
  | [] => 0
  | x :: t => f x + tot f t
theorem getD_drop {α : Type} (l : List α) (z : α) (i : Nat) (h : i < l.length) : l.drop i = l.getD (i : Int).toNat z :: l.drop (i + 1) := by
  rw [List.drop_eq_getElem_cons h, show (i : Int).toNat = i by omega]
  congr 1
  simp [List.getD, List.getElem?_eq_getElem h]
theorem drop_end {α : Type} (l : List α) (i : Nat) (h : i = l.length) : l.drop i = [] := List.drop_of_length_le (by omega)

/-! ### plain laws: trees of values -/
theorem S_ind {P : S43 → Prop} (h : ∀ v : S43, (∀ x ∈ v.f3, P x) → P v) : ∀ v, P v := by
  have key : ∀ (n : Nat) (v : S43), SizeOf.sizeOf v ≤ n → P v := by
    intro n
    induction n with
    | zero => intro v hv; cases v; simp at hv
    | succ n ih =>
      intro v hv
      refine h v (fun x hx => ih x ?_)
      have h1 := List.sizeOf_lt_of_mem hx
      have h2 : SizeOf.sizeOf v.f3 < SizeOf.sizeOf v := by cases v; simp <;> omega
      omega
  intro v
  exact key _ v (Nat.le_refl _)
def digs : Nat → Int → Nat
  | 0, _ => 0
  | m + 1, n => if n > 0 then digs m (n / 256) + 1 else 0
def numB (n : Int) : List Int := 1 :: (digs 8 n : Int) :: (lowL n (digs 8 n)).reverse
mutual
def bytesS : S43 → List Int
  | ⟨f0, f1, f2, f3⟩ => if f0 = 1 then numB f1 else if f0 = 2 then [2] ++ (lowL f2.length 3).reverse ++ f2 else [3] ++ (lowL f3.length 2).reverse ++ bytesL f3
def bytesL : List S43 → List Int
  | [] => []
  | x :: t => bytesS x ++ bytesL t
end
mutual
def pureS : S43 → Bool
  | ⟨f0, f1, f2, f3⟩ => if f0 = 1 then decide (f1 ≥ 0) && decide (f1 ≤ 4611686018427387904) && f2.isEmpty && f3.isEmpty else if f0 = 2 then decide (f1 = 0) && f3.isEmpty else if f0 = 3 then decide (f1 = 0) && f2.isEmpty && decide (f3.length ≤ 4096) && pureL f3 else false
def pureL : List S43 → Bool
  | [] => true
  | x :: t => pureS x && pureL t
end
mutual
def deepS : S43 → Nat
  | ⟨f0, _, _, f3⟩ => if f0 = 3 then 1 + deepL f3 else 0
def deepL : List S43 → Nat
  | [] => 0
  | x :: t => max (deepS x) (deepL t)
end
mutual
def cntS : S43 → Nat
  | ⟨_, _, _, f3⟩ => 1 + cntL f3
def cntL : List S43 → Nat
  | [] => 0
  | x :: t => cntS x + cntL t
end
mutual
def okS : S43 → Bool
  | ⟨_, _, f2, f3⟩ => decide (f2.length ≤ 100000) && okL f3
def okL : List S43 → Bool
  | [] => true
  | x :: t => okS x && okL t
end
theorem okL_all (l : List S43) : okL l = true ↔ ∀ x ∈ l, okS x = true := by
  induction l with
  | nil => simp [okL]
  | cons x t ih => simp [okL, ih]
theorem pureL_all (l : List S43) : pureL l = true ↔ ∀ x ∈ l, pureS x = true := by
  induction l with
  | nil => simp [pureL]
  | cons x t ih => simp [pureL, ih]
theorem cntL_mem (l : List S43) : ∀ x ∈ l, cntS x ≤ cntL l := by
  induction l with
  | nil => simp
  | cons y t ih =>
    intro x hx
    rcases List.mem_cons.1 hx with rfl | hx
    · simp [cntL]
    · have := ih x hx
      simp [cntL]
      omega
theorem cntS_pos (v : S43) : 1 ≤ cntS v := by cases v; simp [cntS]
theorem cntL_len (l : List S43) : l.length ≤ cntL l := by
  induction l with
  | nil => simp
  | cons x t ih =>
    have := cntS_pos x
    simp [cntL]
    omega
theorem cntL_drop (l : List S43) (i : Nat) : cntL (l.drop i) ≤ cntL l := by
  induction l generalizing i with
  | nil => simp
  | cons x t ih =>
    cases i with
    | zero => simp
    | succ i =>
      have := ih i
      simp [cntL]
      omega
theorem cnt_f3 (v : S43) : cntS v = 1 + cntL v.f3 := by cases v; simp [cntS]
theorem ok_f3 (v : S43) (h : okS v = true) : v.f2.length ≤ 100000 ∧ ∀ x ∈ v.f3, okS x = true := by
  cases v
  simp only [okS, Bool.and_eq_true, decide_eq_true_eq] at h
  exact ⟨h.1, (okL_all _).1 h.2⟩
/-- what is asked of a tree, so that no sum passes its bounds -/
structure Small (v : S43) : Prop where
  cnt : cntS v ≤ 100000
  ok : okS v = true
theorem Small.sub {v : S43} (h : Small v) : ∀ x ∈ v.f3, Small x := fun x hx => ⟨by have := cntL_mem _ x hx; have := cnt_f3 v; have := h.cnt; omega, (ok_f3 v h.ok).2 x hx⟩
theorem Small.len3 {v : S43} (h : Small v) : v.f3.length ≤ 100000 := by have := cntL_len v.f3; have := cnt_f3 v; have := h.cnt; omega
theorem Small.len2 {v : S43} (h : Small v) : v.f2.length ≤ 100000 := (ok_f3 v h.ok).1
theorem digs_le : ∀ m n, digs m n ≤ m
  | 0, _ => Nat.le_refl _
  | m + 1, n => by
    simp only [digs]
    split
    · have := digs_le m (n / 256); omega
    · omega
theorem numB_length (n : Int) : (numB n).length ≤ 10 := by
  have := digs_le 8 n
  simp [numB, lowL_length]
  omega
theorem bytes_len (v : S43) : okS v = true → (bytesS v).length ≤ 200000 * cntS v := by
  refine S_ind (P := fun v => okS v = true → (bytesS v).length ≤ 200000 * cntS v) (fun v ih h => ?_) v
  have hl : ∀ l : List S43, (∀ x ∈ l, (bytesS x).length ≤ 200000 * cntS x) → (bytesL l).length ≤ 200000 * cntL l := by
    intro l
    induction l with
    | nil => intro _; simp [bytesL]
    | cons x t iht =>
      intro hx
      have h1 := hx x (by simp)
      have h2 := iht (fun y hy => hx y (by simp [hy]))
      simp only [bytesL, cntL, List.length_append]
      omega
  have h1 := ok_f3 v h
  have h2 := hl v.f3 (fun x hx => ih x hx (h1.2 x hx))
  obtain ⟨f0, f1, f2, f3⟩ := v
  simp only [bytesS, cntS]
  split
  · have := numB_length f1; omega
  · split
    · simp [lowL_length]; have := h1.1; simp at this; omega
    · simp [lowL_length]; simp at h2; omega
theorem deep_le (v : S43) : deepS v ≤ cntS v := by
  refine S_ind (P := fun v => deepS v ≤ cntS v) (fun v ih => ?_) v
  have hl : ∀ l : List S43, (∀ x ∈ l, deepS x ≤ cntS x) → deepL l ≤ cntL l := by
    intro l
    induction l with
    | nil => intro _; simp [deepL]
    | cons x t iht =>
      intro hx
      have h1 := hx x (by simp)
      have h2 := iht (fun y hy => hx y (by simp [hy]))
      simp only [deepL, cntL]
      omega
  have h2 := hl v.f3 ih
  obtain ⟨f0, f1, f2, f3⟩ := v
  simp only [deepS, cntS]
  split
  · simp at h2; omega
  · omega
/-! numbers -/
def plainS (n : Int) : List Int := ((lowS n 8).1.reverse).dropWhile (fun x => x == 0)
theorem strip (m : Nat) : ∀ n : Int, 0 ≤ n → n / 2 ^ (8 * m) = 0 → ((lowL n m).reverse).dropWhile (fun x => x == 0) = (lowL n (digs m n)).reverse ∧ (n > 0 → digs m n ≠ 0) ∧ n / 2 ^ (8 * digs m n) = 0 := by
  induction m with
  | zero => intro n h0 h1; simp at h1; subst h1; exact ⟨rfl, by omega, by simp [digs]⟩
  | succ m ih =>
    intro n h0 h1
    have hq : n / 256 / 2 ^ (8 * m) = 0 := by rw [Int.ediv_ediv_of_nonneg (by decide), ← h1, show (2 : Int) ^ (8 * (m + 1)) = 256 * 2 ^ (8 * m) by rw [show 8 * (m + 1) = 8 * m + 8 by omega, Int.pow_add]; omega]
    obtain ⟨i1, i2, i3⟩ := ih (n / 256) (by omega) hq
    rw [lowL_succ, List.reverse_cons, List.dropWhile_append, i1]
    by_cases hn : n > 0
    · have e : digs (m + 1) n = digs m (n / 256) + 1 := by simp [digs, hn]
      rw [e]
      refine ⟨?_, by omega, ?_⟩
      · rw [lowL_succ, List.reverse_cons]
        by_cases hd : digs m (n / 256) = 0
        · have : ¬ n / 256 > 0 := fun h => i2 h hd
          rw [hd]
          have hne : ¬ n % 256 = 0 := by omega
          simp [lowL, hne]
        · have : ((lowL (n / 256) (digs m (n / 256))).reverse).isEmpty = false := by
            rw [List.isEmpty_eq_false_iff]
            intro h
            have := congrArg List.length h
            simp [lowL_length] at this
            exact hd this
          rw [this]
          rfl
      · rw [show (2 : Int) ^ (8 * (digs m (n / 256) + 1)) = 256 * 2 ^ (8 * digs m (n / 256)) by rw [show 8 * (digs m (n / 256) + 1) = 8 * digs m (n / 256) + 8 by omega, Int.pow_add]; omega, ← Int.ediv_ediv_of_nonneg (by decide)]
        exact i3
    · have h00 : n = 0 := by omega
      subst h00
      have e : digs m (0 / 256) = 0 := by cases m <;> simp [digs]
      rw [e]
      refine ⟨by simp [lowL, digs], by omega, by simp⟩
theorem plain_num (n : Int) (h0 : 0 ≤ n) (h1 : n ≤ 4611686018427387904) : plainS n = (lowL n (digs 8 n)).reverse ∧ lowS n (digs 8 n : Int) = (if n = 0 then ([], 2) else (lowL n (digs 8 n), 0)) := by
  have h8 : n / 2 ^ (8 * 8) = 0 := by rw [show (2 : Int) ^ (8 * 8) = 18446744073709551616 by rfl]; omega
  obtain ⟨a, b, c⟩ := strip 8 n h0 h8
  have e : lowS n 8 = (lowL n 8, 0) := by
    unfold lowS lowBad
    simp [h0, h1] <;> omega
  refine ⟨by unfold plainS; rw [e]; exact a, ?_⟩
  have hle := digs_le 8 n
  unfold lowS lowBad
  by_cases hn : n = 0
  · subst hn
    simp [digs]
  · rw [if_neg hn]
    have := b (by omega)
    rw [Int.toNat_natCast, c]
    have e2 : (decide ((digs 8 n : Int) < 1) || decide ((digs 8 n : Int) > 8) || decide (n < 0) || decide (n > 4611686018427387904) || (decide ((digs 8 n : Int) < 8) && decide ((0 : Int) ≠ 0))) = false := by
      rw [decide_eq_false (show ¬ (digs 8 n : Int) < 1 by omega), decide_eq_false (show ¬ (digs 8 n : Int) > 8 by omega), decide_eq_false (show ¬ n < 0 by omega), decide_eq_false (show ¬ n > 4611686018427387904 by omega)]
      simp
    rw [e2]
    rfl
theorem plain_l0 : ∀ (l : List Int) (k : Nat), l.length < k → codec_plain.l0 k l = some (l.dropWhile (fun x => x == 0)) := by
  intro l
  induction l with
  | nil =>
    intro k hk
    obtain ⟨k, rfl, _⟩ := rounds_ex (m := 0) (by omega : 0 + 1 ≤ k)
    simp [codec_plain.l0]
  | cons x t ih =>
    intro k hk
    obtain ⟨k, rfl, hk'⟩ := rounds_ex (m := t.length + 1) (by simp at hk; omega : t.length + 1 + 1 ≤ k)
    simp only [codec_plain.l0]
    rw [if_pos (by simp <;> omega), if_pos (by simp <;> omega)]
    by_cases h : x = 0
    · subst h
      rw [if_pos (by rfl), if_pos (by simp <;> omega)]
      rw [show List.drop (1 : Int).toNat ((0 : Int) :: t) = t from rfl, ih k (by omega)]
      simp
    · rw [if_neg (by simpa [rd] using h)]
      simp [h]
theorem plain_ev (n : Int) (k : Nat) (hk : 20 ≤ k) : codec_plain.f k n = some (plainS n) := by
  unfold codec_plain.f
  rw [word_put n 8 k (by omega)]
  simp only [Option.bind_some]
  have := lowS_length n 8
  rw [plain_l0 _ k (by simp <;> omega)]
  rfl
theorem plainS_len (n : Int) : (plainS n).length ≤ 8 := by
  have := lowS_length n 8
  have h2 := (List.dropWhile_sublist (l := (lowS n 8).1.reverse) (fun x => x == 0)).length_le
  unfold plainS
  simp at h2 ⊢
  omega
theorem low_ok (n : Nat) (s : Nat) (h1 : 1 ≤ s) (h2 : s ≤ 8) (h3 : (n : Int) / 2 ^ (8 * s) = 0) (h4 : n ≤ 4611686018427387904) : lowS (n : Int) (s : Int) = (lowL n s, 0) := by
  unfold lowS lowBad
  rw [Int.toNat_natCast, h3]
  simp
  omega

set_option maxHeartbeats 4000000
/-! ### plain laws: the program's own coding -/
theorem num_le (n : Nat) (s : Nat) (hs : n < 2 ^ (8 * s)) : (n : Int) / 2 ^ (8 * s) = 0 := by
  refine Int.ediv_eq_zero_of_lt (by omega) ?_
  exact_mod_cast hs
theorem Ev.fin {α : Type} {g : Nat → Option α} {r : α} (K : Nat) (h : ∀ k, K ≤ k → g k = some r) : Ev g r := ⟨K, h⟩
theorem put_ev_n (n s : Int) : Ev (fun k => word_Put.f k n s) ((lowS n s).1.reverse, (lowS n s).2) := Ev.fin 12 (fun k hk => word_put n s k hk)
theorem ixS (l : List S43) (i : Nat) (h : i < l.length) : l.drop i = rd_T43 l (i : Int) :: l.drop (i + 1) := getD_drop l z43 i h
theorem memS (l : List S43) (i : Nat) (h : i < l.length) : rd_T43 l (i : Int) ∈ l := by
  have := List.mem_of_mem_drop (i := i) (l := l) (a := rd_T43 l (i : Int)) (by rw [ixS l i h]; exact List.mem_cons_self)
  exact this
theorem bytesL_small (l : List S43) (h : ∀ x ∈ l, okS x = true) : (bytesL l).length ≤ 200000 * cntL l := by
  induction l with
  | nil => simp [bytesL]
  | cons x t iht =>
    have h1 := bytes_len x (h x (by simp))
    have h2 := iht (fun y hy => h y (by simp [hy]))
    simp only [bytesL, cntL, List.length_append]
    omega
/-- codec.put -/
theorem put_ev (v : S43) : Small v → pureS v = true → ∀ out : List Int, out.length + (bytesS v).length ≤ 100000000000 → Ev (fun k => codec_put.f k out v.f0 v.f1 v.f2 v.f3) (out ++ bytesS v) := by
  refine S_ind (P := fun v => Small v → pureS v = true → ∀ out : List Int, out.length + (bytesS v).length ≤ 100000000000 → Ev (fun k => codec_put.f k out v.f0 v.f1 v.f2 v.f3) (out ++ bytesS v)) (fun v ih hs hp out ho => ?_) v
  have hl2 := hs.len2
  have hl3 := hs.len3
  have hsub := hs.sub
  obtain ⟨f0, f1, f2, f3⟩ := v
  simp only [pureS] at hp
  simp only [bytesS] at ho ⊢
  simp only at hl2 hl3 ih hsub
  by_cases h1 : f0 = 1
  · subst h1
    simp only [if_true, Bool.and_eq_true, decide_eq_true_eq] at hp ho ⊢
    obtain ⟨⟨⟨p1, p2⟩, _⟩, _⟩ := hp
    refine Ev.step (f := fun k => (codec_plain.f k f1).bind fun b => if out.length + 2 + b.length ≤ 140737488355328 then some (out ++ [1, (b.length : Int) % 256] ++ b) else none) (fun k => by simp only [codec_put.f, if_true]) ?_
    refine Ev.bind (a := plainS f1) (Ev.fin 20 (fun k hk => plain_ev f1 k hk)) ?_
    have := plainS_len f1
    simp only [if_pos (show out.length + 2 + (plainS f1).length ≤ 140737488355328 by omega)]
    have e : out ++ [1, ((plainS f1).length : Int) % 256] ++ plainS f1 = out ++ numB f1 := by
      rw [(plain_num f1 p1 p2).1, List.append_assoc]
      unfold numB
      have hd := digs_le 8 f1
      rw [List.length_reverse, lowL_length, show ((digs 8 f1 : Nat) : Int) % 256 = (digs 8 f1 : Int) by omega]
      rfl
    rw [e]
    exact Ev.now _
  rw [if_neg h1] at hp ho ⊢
  by_cases h2 : f0 = 2
  · subst h2
    simp only [if_true] at ho ⊢
    refine Ev.step (f := fun k => (word_Put.f k (f2.length : Int) 3).bind fun n => if out.length + 1 + n.1.length + f2.length ≤ 140737488355328 then some (out ++ [2] ++ n.1 ++ f2) else none) (fun k => by simp only [codec_put.f, if_true, show ¬ (2 : Int) = 1 by decide, if_false]) ?_
    refine Ev.bind (put_ev_n _ _) ?_
    rw [show (3 : Int) = ((3 : Nat) : Int) from rfl, low_ok f2.length 3 (by omega) (by omega) (num_le _ _ (by omega)) (by omega)]
    have hq : out.length + 1 + ((lowL (f2.length : Int) 3).reverse).length + f2.length ≤ 140737488355328 := by rw [List.length_reverse, lowL_length]; omega
    simp only [if_pos hq]
    rw [show out ++ [2] ++ (lowL (f2.length : Int) 3).reverse ++ f2 = out ++ ([2] ++ (lowL (f2.length : Int) 3).reverse ++ f2) by simp]
    exact Ev.now _
  · rw [if_neg h2] at hp ho ⊢
    by_cases h3 : f0 = 3
    · subst h3
      simp only [if_true, Bool.and_eq_true, decide_eq_true_eq] at hp
      obtain ⟨⟨⟨_, _⟩, p3⟩, p4⟩ := hp
      refine Ev.step (f := fun k => (word_Put.f k (f3.length : Int) 2).bind fun n => if out.length + 1 + n.1.length ≤ 140737488355328 then f3.foldlM (fun o x => codec_put.f k o x.f0 x.f1 x.f2 x.f3) (out ++ [3] ++ n.1) else none) (fun k => by simp only [codec_put.f, show ¬ (3 : Int) = 1 by decide, show ¬ (3 : Int) = 2 by decide, if_false]) ?_
      refine Ev.bind (put_ev_n _ _) ?_
      rw [show (2 : Int) = ((2 : Nat) : Int) from rfl, low_ok f3.length 2 (by omega) (by omega) (num_le _ _ (by omega)) (by omega)]
      have hlen : ((lowL (f3.length : Int) 2).reverse).length = 2 := by rw [List.length_reverse, lowL_length]
      have hq : out.length + 1 + ((lowL (f3.length : Int) 2).reverse).length ≤ 140737488355328 := by omega
      simp only [if_pos hq]
      have ho' : (out ++ [3] ++ (lowL (f3.length : Int) 2).reverse).length + (bytesL f3).length ≤ 100000000000 := by
        simp only [List.length_append, List.length_singleton] at ho ⊢
        omega
      rw [show out ++ ([3] ++ (lowL (f3.length : Int) 2).reverse ++ bytesL f3) = (out ++ [3] ++ (lowL (f3.length : Int) 2).reverse) ++ bytesL f3 by simp]
      generalize out ++ [3] ++ (lowL (f3.length : Int) 2).reverse = o at ho' ⊢
      clear ho hq hl3 hs p3 hlen
      induction f3 generalizing o with
      | nil => simp only [List.foldlM_nil, bytesL, List.append_nil]; exact Ev.now _
      | cons x t iht =>
        simp only [pureL, Bool.and_eq_true] at p4
        simp only [bytesL, List.length_append] at ho'
        simp only [List.foldlM_cons, bytesL]
        refine Ev.bind (ih x (by simp) (hsub x (by simp)) p4.1 o (by omega)) ?_
        rw [← List.append_assoc]
        exact iht (fun y hy => ih y (by simp [hy])) (fun y hy => hsub y (by simp [hy])) p4.2 _ (by simp only [List.length_append]; omega)
    · rw [if_neg h3] at hp
      cases hp
/-! codec.measure -/
def goodS (v : S43) (deep : Int) : Prop := pureS v = true ∧ (deepS v : Int) ≤ deep
structure Meas (v : S43) (room : Int) (deep : Int) (n : Int) (ok : Bool) : Prop where
  yes : ok = true → goodS v deep ∧ n = (bytesS v).length
  no : ok = false → n = 0
  fits : goodS v deep → ((bytesS v).length : Int) ≤ room → ok = true
theorem pure_ev (v : S43) (h2 : v.f2.length ≤ 100000) : codec_pure.f v.f0 v.f1 v.f2 v.f3 = some (if v.f0 = 1 then decide (v.f1 ≥ 0) && decide (v.f1 ≤ 4611686018427387904) && v.f2.isEmpty && v.f3.isEmpty else if v.f0 = 2 then decide (v.f1 = 0) && v.f3.isEmpty else if v.f0 = 3 then decide (v.f1 = 0) && v.f2.isEmpty && decide (v.f3.length ≤ 4096) else false) := by
  have e2 : ∀ l : List Int, ((l.length : Int) == 0) = l.isEmpty := by intro l; cases l <;> simp <;> omega
  have e3 : ∀ l : List S43, ((l.length : Int) == 0) = l.isEmpty := by intro l; cases l <;> simp <;> omega
  have d2 : ∀ l : List Int, ((l.length : Int) = 0) ↔ l.isEmpty = true := by intro l; rw [← e2]; simp
  unfold codec_pure.f
  by_cases h1 : v.f0 = 1
  · rw [if_pos h1, if_pos h1]
    by_cases a1 : v.f1 ≥ 0
    · rw [if_pos a1]
      by_cases a2 : v.f1 ≤ 4611686018427387904
      · rw [if_pos a2]
        by_cases a3 : (v.f2.length : Int) = 0
        · rw [if_pos a3, e3, (d2 v.f2).1 a3]; simp [a1, a2]
        · rw [if_neg a3, show v.f2.isEmpty = false by cases hh : v.f2.isEmpty; rfl; exact absurd ((d2 v.f2).2 hh) a3]; simp
      · rw [if_neg a2]; simp [a2]
    · rw [if_neg a1]; simp [a1]
  rw [if_neg h1, if_neg h1]
  by_cases h2' : v.f0 = 2
  · rw [if_pos h2', if_pos h2']
    by_cases a1 : v.f1 = 0
    · rw [if_pos a1, if_pos (by omega), e3]; simp [a1]
    · rw [if_neg a1]; simp [a1]
  rw [if_neg h2', if_neg h2']
  by_cases h3 : v.f0 = 3
  · rw [if_pos h3, if_pos h3]
    by_cases a1 : v.f1 = 0
    · rw [if_pos a1]
      by_cases a3 : (v.f2.length : Int) = 0
      · rw [if_pos a3, (d2 v.f2).1 a3]; simp [a1]; omega
      · rw [if_neg a3, show v.f2.isEmpty = false by cases hh : v.f2.isEmpty; rfl; exact absurd ((d2 v.f2).2 hh) a3]; simp
    · rw [if_neg a1]; simp [a1]
  · rw [if_neg h3, if_neg h3]
theorem pure_v (v : S43) (h2 : v.f2.length ≤ 100000) : codec_pure.f v.f0 v.f1 v.f2 v.f3 = some true ∧ (v.f0 = 3 → (pureS v = pureL v.f3)) ∧ (v.f0 ≠ 3 → pureS v = true) ∨ codec_pure.f v.f0 v.f1 v.f2 v.f3 = some false ∧ pureS v = false := by
  rw [pure_ev v h2]
  obtain ⟨f0, f1, f2, f3⟩ := v
  simp only [pureS]
  by_cases h1 : f0 = 1
  · subst h1
    simp only [if_true]
    cases hb : (decide (f1 ≥ 0) && decide (f1 ≤ 4611686018427387904) && f2.isEmpty && f3.isEmpty) <;> simp
  rw [if_neg h1, if_neg h1]
  by_cases h2 : f0 = 2
  · subst h2
    simp only [if_true]
    cases hb : (decide (f1 = 0) && f3.isEmpty) <;> simp
  rw [if_neg h2, if_neg h2]
  by_cases h3 : f0 = 3
  · subst h3
    simp only [if_true]
    cases hb : (decide (f1 = 0) && f2.isEmpty && decide (f3.length ≤ 4096)) <;> simp
  · rw [if_neg h3, if_neg h3]
    simp
theorem deepS_le (v : S43) (d : Int) : (deepS v : Int) ≤ d ↔ 0 ≤ d ∧ (v.f0 = 3 → 1 ≤ d ∧ (deepL v.f3 : Int) ≤ d - 1) := by
  obtain ⟨f0, f1, f2, f3⟩ := v
  simp only [deepS]
  by_cases h3 : f0 = 3
  · simp only [h3, if_true, forall_const]; omega
  · simp only [h3, if_false, false_implies, and_true]; omega
theorem num_len (f1 : Int) (h0 : 0 ≤ f1) (h1 : f1 ≤ 4611686018427387904) : (numB f1).length = 2 + (plainS f1).length := by
  rw [(plain_num f1 h0 h1).1]; simp [numB]; omega
theorem goodL_all (l : List S43) (d : Int) (h0 : 0 ≤ d) : (pureL l = true ∧ (deepL l : Int) ≤ d) ↔ ∀ x ∈ l, goodS x d := by
  induction l with
  | nil => simp [pureL, deepL, h0]
  | cons x t ih =>
    rw [List.forall_mem_cons, ← ih]
    simp only [pureL, deepL, Bool.and_eq_true, goodS]
    constructor
    · rintro ⟨⟨a, b⟩, c⟩; exact ⟨⟨a, by omega⟩, b, by omega⟩
    · rintro ⟨⟨a, b⟩, c, e⟩; exact ⟨⟨a, c⟩, by omega⟩
theorem measL (room d : Int) (l : List S43) (hl : l.length ≤ 100000) (hb : (bytesL l).length ≤ 20000000000) (hr0 : room ≤ 1048576) (hr : 0 ≤ room) (hd0 : 0 ≤ d) (hd1 : d ≤ 16)
    (ih : ∀ x ∈ l, ∀ r : Int, r ≤ 1048576 → -30000000000 ≤ r → ∃ n ok, Ev (fun k => codec_measure.f k x.f0 x.f1 x.f2 x.f3 r (d - 1)) (n, ok) ∧ Meas x r (d - 1) n ok) :
    ∀ (j i : Nat) (s : Int), i + j = l.length → 3 ≤ s → s + (bytesL (l.drop i)).length ≤ 20000000003 → ∃ n ok, Ev (fun k => codec_measure.l0 k room d s l (l.length : Int) i) (n, ok) ∧
      (ok = true → (∀ x ∈ l.drop i, goodS x (d - 1)) ∧ n = s + (bytesL (l.drop i)).length) ∧ (ok = false → n = 0) ∧ ((∀ x ∈ l.drop i, goodS x (d - 1)) → s + (bytesL (l.drop i)).length ≤ room → ok = true) := by
  intro j
  induction j with
  | zero =>
    intro i s hi h3 hs
    refine ⟨s, true, Ev.some_ (fun k => by simp only [codec_measure.l0]; rw [if_neg (by omega)]), ?_⟩
    rw [drop_end l i (by omega)]
    simp [bytesL]
  | succ j ihj =>
    intro i s hi h3 hs
    have hlt : i < l.length := by omega
    rw [ixS l i hlt] at hs ⊢
    simp only [bytesL, List.length_append] at hs ⊢
    have hm := memS l i hlt
    obtain ⟨n1, ok1, e1, m1⟩ := ih (rd_T43 l (i : Int)) hm (room - s) (by omega) (by omega)
    have ew : wrap64 (room - s) = room - s := w64i (by omega) (by omega)
    have ed : wrap64 (d - 1) = d - 1 := w64i (by omega) (by omega)
    have ei : wrap64 ((i : Int) + 1) = ((i + 1 : Nat) : Int) := ix_next i (by omega)
    have step : ∀ k, codec_measure.l0 (k + 1) room d s l (l.length : Int) i = (codec_measure.f k (rd_T43 l (i : Int)).f0 (rd_T43 l (i : Int)).f1 (rd_T43 l (i : Int)).f2 (rd_T43 l (i : Int)).f3 (room - s) (d - 1)).bind fun bt => if bt.2 = true then codec_measure.l0 k room d (wrap64 (s + bt.1)) l (l.length : Int) ((i + 1 : Nat) : Int) else some (0, false) := by
      intro k
      simp only [codec_measure.l0]
      simp only [if_pos (Int.ofNat_lt.2 hlt), if_pos (Int.natCast_nonneg i)]
      rw [ew, ed, ei]
    cases ok1 with
    | false =>
      refine ⟨0, false, Ev.step step (Ev.bind e1 (Ev.now (0, false))), fun h => (by cases h), fun _ => rfl, fun hg hle => ?_⟩
      have := m1.fits (hg _ (by simp)) (by omega)
      cases this
    | true =>
      obtain ⟨g1, rfl⟩ := m1.yes rfl
      have es : wrap64 (s + (bytesS (rd_T43 l (i : Int))).length) = s + (bytesS (rd_T43 l (i : Int))).length := w64i (by omega) (by omega)
      obtain ⟨n, ok, e2, y2, n2, f2⟩ := ihj (i + 1) (s + (bytesS (rd_T43 l (i : Int))).length) (by omega) (by omega) (by omega)
      refine ⟨n, ok, Ev.step step (Ev.bind e1 ?_), fun h => ⟨?_, ?_⟩, n2, fun hg hle => f2 (fun x hx => hg x (by simp [hx])) (by omega)⟩
      · simp only [if_true, es]
        exact e2
      · intro x hx
        rcases List.mem_cons.1 hx with rfl | hx
        · exact g1
        · exact (y2 h).1 x hx
      · rw [(y2 h).2]; omega
theorem meas_ev (v : S43) : Small v → ∀ (room d : Int), room ≤ 1048576 → -30000000000 ≤ room → -1 ≤ d → d ≤ 16 → ∃ n ok, Ev (fun k => codec_measure.f k v.f0 v.f1 v.f2 v.f3 room d) (n, ok) ∧ Meas v room d n ok := by
  refine S_ind (P := fun v => Small v → ∀ (room d : Int), room ≤ 1048576 → -30000000000 ≤ room → -1 ≤ d → d ≤ 16 → ∃ n ok, Ev (fun k => codec_measure.f k v.f0 v.f1 v.f2 v.f3 room d) (n, ok) ∧ Meas v room d n ok) (fun v ih hs room d hr1 hr0 hd0 hd1 => ?_) v
  have hbl := bytes_len v hs.ok
  have hcnt := hs.cnt
  have bad : ∀ b : Bool, codec_pure.f v.f0 v.f1 v.f2 v.f3 = some true → (if room < 0 then true else decide (d < 0)) = true → ∃ n ok, Ev (fun k => codec_measure.f k v.f0 v.f1 v.f2 v.f3 room d) (n, ok) ∧ Meas v room d n ok := by
    intro _ hp hb
    refine ⟨0, false, Ev.step (f := fun k => codec_measure.j0 k room d true v.f0 v.f1 v.f2 v.f3) (fun k => ?_) (Ev.some_ (fun k => by simp only [codec_measure.j0, if_true])), fun h => (by cases h), fun _ => rfl, fun hg hle => ?_⟩
    · simp only [codec_measure.f, hp, Option.bind_some, if_true]
      by_cases hr : room < 0
      · rw [if_pos hr]
      · rw [if_neg hr] at hb ⊢; rw [hb]
    · by_cases hr : room < 0
      · omega
      · rw [if_neg hr] at hb
        have hb := of_decide_eq_true hb
        have := hg.2
        omega
  rcases pure_v v hs.len2 with ⟨hp, hp3, hpn⟩ | ⟨hp, hpS⟩
  · by_cases hb : (if room < 0 then true else decide (d < 0)) = true
    · exact bad true hp hb
    have hr : ¬ room < 0 := fun h => hb (by rw [if_pos h])
    have hd : ¬ d < 0 := fun h => hb (by rw [if_neg hr]; exact decide_eq_true h)
    have st : ∀ (g : Nat → Option (Int × Bool)), (∀ k, codec_measure.j0 (k + 1) room d false v.f0 v.f1 v.f2 v.f3 = g k) → ∀ r, Ev g r → Ev (fun k => codec_measure.f k v.f0 v.f1 v.f2 v.f3 room d) r := by
      intro g hg r e
      refine Ev.step (f := fun k => codec_measure.j0 k room d false v.f0 v.f1 v.f2 v.f3) (fun k => ?_) (Ev.step (f := g) hg e)
      simp only [codec_measure.f, hp, Option.bind_some, if_true]
      rw [if_neg hr, decide_eq_false hd]
    obtain ⟨f0, f1, f2, f3⟩ := v
    simp only at hp hp3 hpn st ih
    by_cases h1 : f0 = 1
    · subst h1
      have hpS := hpn (by decide)
      have hpS2 := hpS
      simp only [pureS, if_true, Bool.and_eq_true, decide_eq_true_eq] at hpS2
      have hn := num_len f1 hpS2.1.1.1 hpS2.1.1.2
      have hl := plainS_len f1
      refine ⟨2 + (plainS f1).length, true, st (fun k => (codec_plain.f k f1).bind fun t => some (wrap64 (2 + (t.length : Int)), true)) (fun k => by simp [codec_measure.j0]) _ ?_, fun _ => ⟨⟨hpS, (deepS_le _ _).2 ⟨by omega, fun h => by cases h⟩⟩, ?_⟩, fun h => (by cases h), fun _ _ => rfl⟩
      · refine Ev.bind (a := plainS f1) (Ev.fin 20 (fun k hk => plain_ev f1 k hk)) ?_
        rw [w64i (by omega) (by omega)]
        exact Ev.now _
      · simp only [bytesS, if_true]
        rw [hn]
        omega
    by_cases h2 : f0 = 2
    · subst h2
      have hpS := hpn (by decide)
      have hl2 := hs.len2
      simp only at hl2
      refine ⟨4 + f2.length, true, st (fun k => some (4 + f2.length, true)) (fun k => by simp only [codec_measure.j0]; simp; rw [w64i (by omega) (by omega)]) _ (Ev.now _), fun _ => ⟨⟨hpS, (deepS_le _ _).2 ⟨by omega, fun h => by cases h⟩⟩, ?_⟩, fun h => (by cases h), fun _ _ => rfl⟩
      simp [bytesS, lowL_length]
      omega
    by_cases h3 : f0 = 3
    · subst h3
      have e3 := hp3 rfl
      by_cases hd0 : d = 0
      · subst hd0
        refine ⟨0, false, st (fun k => some (0, false)) (fun k => by simp [codec_measure.j0]) _ (Ev.now _), fun h => (by cases h), fun _ => rfl, fun hg hle => ?_⟩
        have := ((deepS_le _ _).1 hg.2).2 rfl
        omega
      · have hsub := hs.sub
        have hl3 := hs.len3
        simp only at hsub hl3
        have hb3 : (bytesL f3).length ≤ 20000000000 := by
          simp only [bytesS] at hbl
          simp at hbl
          omega
        obtain ⟨n, ok, e, y, no, fi⟩ := measL room d f3 hl3 hb3 hr1 (by omega) (by omega) hd1 (fun x hx r h1 h2 => ih x hx (hsub x hx) r (d - 1) h1 h2 (by omega) (by omega)) f3.length 0 3 (by omega) (by omega) (by simp; omega)
        simp only [List.drop_zero] at y fi
        have hlen : (bytesS (⟨3, f1, f2, f3⟩ : S43)).length = 3 + (bytesL f3).length := by simp [bytesS, lowL_length]; omega
        have hgood : goodS (⟨3, f1, f2, f3⟩ : S43) d ↔ ∀ x ∈ f3, goodS x (d - 1) := by
          rw [← goodL_all f3 (d - 1) (by omega)]
          unfold goodS
          rw [e3, deepS_le]
          simp only [forall_const]
          constructor
          · rintro ⟨a, _, _, b⟩; exact ⟨a, b⟩
          · rintro ⟨a, b⟩; exact ⟨a, by omega, by omega, b⟩
        refine ⟨n, ok, st (fun k => codec_measure.l0 k room d 3 f3 (f3.length : Int) 0) (fun k => by simp [codec_measure.j0, hd0]) _ e, fun h => ⟨hgood.2 (y h).1, ?_⟩, no, fun hg hle => fi (hgood.1 hg) (by rw [hlen] at hle; omega)⟩
        rw [hlen, (y h).2]
        omega
    · exfalso
      have := hpn h3
      simp [pureS, h1, h2, h3] at this
  · refine ⟨0, false, Ev.step (f := fun k => codec_measure.j0 k room d true v.f0 v.f1 v.f2 v.f3) (fun k => by simp [codec_measure.f, hp]) (Ev.some_ (fun k => by simp only [codec_measure.j0, if_true])), fun h => (by cases h), fun _ => rfl, fun hg hle => ?_⟩
    have := hg.1
    rw [hpS] at this
    cases this

/-! ### plain laws: are two lists one? -/
theorem rd_get (l : List Int) (i : Nat) (h : i < l.length) : rd l (i : Int) = l[i] := by
  unfold rd
  simp [List.getD, List.getElem?_eq_getElem h]
theorem same_l0 (a b : List Int) (hl : a.length = b.length) (hm : a.length ≤ 4611686018427387904) : ∀ (d k i : Nat), i + d = a.length → d < k →
    bastilleref01_Same.l0 k a b (i : Int) = some (decide (a.drop i = b.drop i)) := by
  intro d
  induction d with
  | zero =>
    intro k i h1 hk
    obtain ⟨k, rfl, _⟩ := rounds_ex (m := 0) (by omega : 0 + 1 ≤ k)
    simp only [bastilleref01_Same.l0]
    rw [if_neg (by omega), List.drop_of_length_le (by omega), List.drop_of_length_le (by omega)]
    simp
  | succ d ih =>
    intro k i h1 hk
    obtain ⟨k, rfl, hk'⟩ := rounds_ex (m := d + 1) (by omega : d + 1 + 1 ≤ k)
    simp only [bastilleref01_Same.l0]
    rw [if_pos (by omega), if_pos (by omega), if_pos (by omega), rd_get a i (by omega), rd_get b i (by omega), w64i (by omega) (by omega)]
    rw [List.drop_eq_getElem_cons (show i < a.length by omega), List.drop_eq_getElem_cons (show i < b.length by omega)]
    have := ih k (i + 1) (by omega) (by omega)
    rw [show (((i + 1 : Nat)) : Int) = (i : Int) + 1 by omega] at this
    by_cases h : a[i] = b[i]
    · rw [if_pos h, this]
      congr 1
      exact decide_eq_decide.mpr (by rw [h]; exact ⟨fun e => by rw [e], fun e => (List.cons.inj e).2⟩)
    · rw [if_neg h]
      exact congrArg some (decide_eq_false (fun e => h (List.cons.inj e).1)).symm
theorem same_ev (a b : List Int) (hm : a.length ≤ 4611686018427387904) (k : Nat) (hk : a.length + 1 ≤ k) : bastilleref01_Same.f k a b = some (decide (a = b)) := by
  unfold bastilleref01_Same.f
  by_cases h : a.length = b.length
  · rw [if_pos (by omega)]
    have := same_l0 a b h hm a.length k 0 (by omega) (by omega)
    simpa using this
  · rw [if_neg (by omega)]
    simp
    intro e
    exact h (by rw [e])
theorem same_refl (a : List Int) (hm : a.length ≤ 4611686018427387904) (k : Nat) (hk : a.length + 1 ≤ k) : bastilleref01_Same.f k a a = some true := by
  rw [same_ev a a hm k hk]; simp

/-! ### plain laws: the reference's turning -/
theorem turned_l0 (b : List Int) (hb : b.length ≤ 4611686018427) : ∀ (i k : Nat) (l : List Int), i ≤ b.length → l.length + i ≤ b.length → i < k →
    bastilleref01_Turned.l0 k b l ((i : Int) - 1) = some (l ++ (b.take i).reverse) := by
  intro i
  induction i with
  | zero =>
    intro k l h1 h2 hk
    obtain ⟨k, rfl, _⟩ := rounds_ex (m := 0) (by omega : 0 + 1 ≤ k)
    simp only [bastilleref01_Turned.l0]
    rw [if_neg (by omega)]
    simp
  | succ i ih =>
    intro k l h1 h2 hk
    obtain ⟨k, rfl, hk'⟩ := rounds_ex (m := i + 1) (by omega : i + 1 + 1 ≤ k)
    simp only [bastilleref01_Turned.l0]
    rw [show (((i + 1 : Nat)) : Int) - 1 = (i : Int) by omega, if_pos (by omega), if_pos (by omega), if_pos (by omega), if_pos (by omega), w64i (by omega) (by omega), ih k _ (by omega) (by simp; omega) (by omega)]
    rw [rd_get b i (by omega), List.take_succ_eq_append_getElem (by omega), List.reverse_append]
    simp
theorem turned_ev (b : List Int) (hb : b.length ≤ 4611686018427) (k : Nat) (hk : b.length + 1 ≤ k) : bastilleref01_Turned.f k b = some b.reverse := by
  unfold bastilleref01_Turned.f
  rw [w64i (by omega) (by omega), turned_l0 b hb b.length k [] (by omega) (by simp) (by omega)]
  simp

/-! ### plain laws: the reference's bytes -/
theorem rlow_l0 (s : Nat) (hs : s ≤ 8) : ∀ (d k i : Nat) (n : Int) (l : List Int), i + d = s → l.length ≤ 8 → 0 ≤ n → n ≤ 4611686018427387904 → l.length = i → d < k →
    bastilleref01_Low.l0 k n (s : Int) l (i : Int) = some (if n / 2 ^ (8 * d) > 0 then ([], 2) else (l ++ (List.range' 0 d).map (byteAt n), 0)) := by
  intro d
  induction d with
  | zero =>
    intro k i n l h1 h2 h3 h4 h5 hk
    obtain ⟨k, rfl, _⟩ := rounds_ex (m := 0) (by omega : 0 + 1 ≤ k)
    simp only [bastilleref01_Low.l0]
    rw [if_neg (by omega)]
    simp
    split <;> rfl
  | succ d ih =>
    intro k i n l h1 h2 h3 h4 h5 hk
    obtain ⟨k, rfl, hk'⟩ := rounds_ex (m := d + 1) (by omega : d + 1 + 1 ≤ k)
    simp only [bastilleref01_Low.l0]
    have e1 : Int.tdiv n 256 = n / 256 := Int.tdiv_eq_ediv_of_nonneg h3
    have e2 : Int.tmod n 256 = n % 256 := Int.tmod_eq_emod_of_nonneg h3
    rw [if_pos (by omega), if_pos (by omega), e1, e2, w64i (by omega) (by omega), w64i (by omega) (by omega)]
    have := ih k (i + 1) (n / 256) (l ++ [n % 256 % 256]) (by omega) (by simp; omega) (by omega) (by omega) (by simp; omega) (by omega)
    rw [show (((i + 1 : Nat)) : Int) = (i : Int) + 1 by omega] at this
    rw [this]
    have e3 : n / 256 / 2 ^ (8 * d) = n / 2 ^ (8 * (d + 1)) := by
      rw [Int.ediv_ediv_of_nonneg (by decide), show (2 : Int) ^ (8 * (d + 1)) = 256 * 2 ^ (8 * d) by rw [show 8 * (d + 1) = 8 * d + 8 by omega, Int.pow_add]; omega]
    have e4 : (l ++ [n % 256 % 256]) ++ (List.range' 0 d).map (byteAt (n / 256)) = l ++ (List.range' 0 (d + 1)).map (byteAt n) := by
      rw [List.append_assoc, List.range'_succ, List.map_cons]
      congr 1
      rw [List.singleton_append]
      congr 1
      · simp [byteAt]
      · apply List.ext_getElem (by simp)
        intro j _ _
        simp only [List.getElem_map, List.getElem_range', Nat.one_mul, Nat.zero_add]
        rw [byteAt_succ, Nat.add_comm]
    rw [e3, e4]
theorem rlow_bad (k : Nat) (n s : Int) (hk : 1 ≤ k) : bastilleref01_Low.j0 k n s true = some ([], 2) := by
  obtain ⟨k, rfl, _⟩ := rounds_ex (m := 0) (by omega : 0 + 1 ≤ k)
  simp [bastilleref01_Low.j0]
theorem rlow (n s : Int) (k : Nat) (hk : 12 ≤ k) : bastilleref01_Low.f k n s = some (lowS n s) := by
  unfold bastilleref01_Low.f lowS lowBad
  by_cases h1 : s < 1
  · rw [if_pos h1, rlow_bad k n s (by omega)]; simp [h1]
  by_cases h2 : s > 8
  · rw [if_neg h1, if_pos h2, rlow_bad k n s (by omega)]; simp [h2]
  by_cases h3 : n < 0
  · rw [if_neg h1, if_neg h2, if_pos h3, rlow_bad k n s (by omega)]; simp [h3]
  by_cases h4 : n > 4611686018427387904
  · rw [if_neg h1, if_neg h2, if_neg h3, show decide (n > 4611686018427387904) = true by simpa using h4, rlow_bad k n s (by omega)]; simp [h4]
  rw [if_neg h1, if_neg h2, if_neg h3, show decide (n > 4611686018427387904) = false by simpa using h4]
  obtain ⟨k, rfl, hk'⟩ := rounds_ex (m := 11) (by omega : 11 + 1 ≤ k)
  simp only [bastilleref01_Low.j0]
  rw [if_neg (by simp)]
  have := rlow_l0 s.toNat (by omega) s.toNat k 0 n [] (by omega) (by simp) (by omega) (by omega) (by simp) (by omega)
  rw [show ((s.toNat : Nat) : Int) = s by omega, show ((0 : Nat) : Int) = 0 by rfl] at this
  rw [this]
  have hq : 0 ≤ n / 2 ^ (8 * s.toNat) := Int.ediv_nonneg (by omega) (by exact_mod_cast Nat.zero_le _)
  by_cases h5 : s < 8
  · by_cases h6 : n / 2 ^ (8 * s.toNat) = 0
    · simp [h1, h2, h3, h4, h6, lowL]
    · rw [if_pos (by omega)]; simp [h5, h6]
  · have h8 : s = 8 := by omega
    subst h8
    have h9 : n / 2 ^ (8 * (8 : Int).toNat) = 0 := by
      rw [show (2 : Int) ^ (8 * (8 : Int).toNat) = 18446744073709551616 by rfl]; omega
    rw [if_neg (by omega)]
    simp [h3, h4, lowL]

theorem rput (n s : Int) (k : Nat) (hk : 12 ≤ k) : bastilleref01_Put.f k n s = some ((lowS n s).1.reverse, (lowS n s).2) := by
  unfold bastilleref01_Put.f
  rw [rlow n s k hk]
  have := lowS_length n s
  simp only [Option.bind_some]
  rw [turned_ev _ (by omega) k (by omega)]
  rfl

/-! codec.depth and the books' Deep -/
theorem mx_n (a b : Nat) : mx (a : Int) (b : Int) = ((max a b : Nat) : Int) := by unfold mx; split <;> omega
theorem depthL (m : Nat) (hm : m ≤ 16) (l : List S43) (hl : l.length ≤ 100000) (ih : ∀ x ∈ l, Ev (fun k => codec_depth.f k x.f0 x.f1 x.f2 x.f3 (m : Int)) ((min (deepS x) m : Nat) : Int)) :
    ∀ (j i : Nat) (s : Nat), i + j = l.length → 1 ≤ s → Ev (fun k => codec_depth.l0 k ((m + 1 : Nat) : Int) (s : Int) l (l.length : Int) i) ((max s (1 + min (deepL (l.drop i)) m) : Nat) : Int) := by
  intro j
  induction j with
  | zero =>
    intro i s hi hs
    rw [drop_end l i (by omega)]
    refine Ev.some_ (fun k => ?_)
    simp only [codec_depth.l0, deepL]
    rw [if_neg (by omega)]
    congr 1
    omega
  | succ j ihj =>
    intro i s hi hs
    have hlt : i < l.length := by omega
    rw [ixS l i hlt]
    refine Ev.step (f := fun k => (codec_depth.f k (rd_T43 l (i : Int)).f0 (rd_T43 l (i : Int)).f1 (rd_T43 l (i : Int)).f2 (rd_T43 l (i : Int)).f3 (m : Int)).bind fun t => codec_depth.l0 k ((m + 1 : Nat) : Int) (mx (s : Int) (wrap64 (1 + t))) l (l.length : Int) ((i + 1 : Nat) : Int)) (fun k => ?_) (Ev.bind (ih _ (memS l i hlt)) ?_)
    · simp only [codec_depth.l0]
      simp only [if_pos (Int.ofNat_lt.2 hlt), if_pos (Int.natCast_nonneg i)]
      rw [ix_next i (by omega), show wrap64 (((m + 1 : Nat) : Int) - 1) = (m : Int) by rw [w64i (by omega) (by omega)]; omega]
    · rw [show wrap64 (1 + ((min (deepS (rd_T43 l (i : Int))) m : Nat) : Int)) = ((1 + min (deepS (rd_T43 l (i : Int))) m : Nat) : Int) by rw [w64i (by omega) (by omega)]; omega, mx_n]
      have := ihj (i + 1) (max s (1 + min (deepS (rd_T43 l (i : Int))) m)) (by omega) (by omega)
      simp only [deepL]
      rw [show max s (1 + min (max (deepS (rd_T43 l (i : Int))) (deepL (l.drop (i + 1)))) m) = max (max s (1 + min (deepS (rd_T43 l (i : Int))) m)) (1 + min (deepL (l.drop (i + 1))) m) by omega]
      exact this
theorem depth_ev (v : S43) : Small v → ∀ (m : Nat), m ≤ 17 → Ev (fun k => codec_depth.f k v.f0 v.f1 v.f2 v.f3 (m : Int)) ((min (deepS v) m : Nat) : Int) := by
  refine S_ind (P := fun v => Small v → ∀ (m : Nat), m ≤ 17 → Ev (fun k => codec_depth.f k v.f0 v.f1 v.f2 v.f3 (m : Int)) ((min (deepS v) m : Nat) : Int)) (fun v ih hs m hm => ?_) v
  have hl3 := hs.len3
  have hsub := hs.sub
  obtain ⟨f0, f1, f2, f3⟩ := v
  simp only at ih hl3 hsub
  by_cases h3 : f0 = 3
  · subst h3
    cases m with
    | zero => exact Ev.step (f := fun k => codec_depth.j0 k 0 true 3 f1 f2 f3) (fun k => by simp [codec_depth.f]) (Ev.some_ (fun k => by simp [codec_depth.j0]))
    | succ m =>
      refine Ev.step (f := fun k => codec_depth.j0 k ((m + 1 : Nat) : Int) false 3 f1 f2 f3) (fun k => ?_) (Ev.step (f := fun k => codec_depth.l0 k ((m + 1 : Nat) : Int) ((1 : Nat) : Int) f3 (f3.length : Int) ((0 : Nat) : Int)) (fun k => by simp [codec_depth.j0]) ?_)
      · simp only [codec_depth.f, if_true]
        rw [show (((m + 1 : Nat) : Int) == 0) = false by rw [beq_eq_false_iff_ne]; omega]
      · have := depthL m (by omega) f3 hl3 (fun x hx => ih x hx (hsub x hx) m (by omega)) f3.length 0 1 (by omega) (by omega)
        rw [List.drop_zero] at this
        rw [show min (deepS (⟨3, f1, f2, f3⟩ : S43)) (m + 1) = max 1 (1 + min (deepL f3) m) by simp only [deepS, if_true]; omega]
        exact this
  · refine Ev.step (f := fun k => codec_depth.j0 k (m : Int) true f0 f1 f2 f3) (fun k => by simp [codec_depth.f, h3]) (Ev.some_ (fun k => by simp [codec_depth.j0, deepS, h3]))
theorem rdeepL (v : S43) (hl : v.f3.length ≤ 100000) (hb : ∀ x ∈ v.f3, deepS x ≤ 100000) (ih : ∀ x ∈ v.f3, Ev (fun k => bastilleref02_Deep.f k x.f0 x.f1 x.f2 x.f3) ((deepS x : Nat) : Int)) :
    ∀ (j i : Nat) (s : Nat), i + j = v.f3.length → 1 ≤ s → Ev (fun k => bastilleref02_Deep.l0 k (s : Int) (i : Int) v.f0 v.f1 v.f2 v.f3) ((max s (1 + deepL (v.f3.drop i)) : Nat) : Int) := by
  intro j
  induction j with
  | zero =>
    intro i s hi hs
    rw [drop_end v.f3 i (by omega)]
    refine Ev.some_ (fun k => ?_)
    simp only [bastilleref02_Deep.l0, deepL]
    rw [if_neg (by omega)]
    congr 1
    omega
  | succ j ihj =>
    intro i s hi hs
    have hlt : i < v.f3.length := by omega
    rw [ixS v.f3 i hlt]
    have hd := hb _ (memS v.f3 i hlt)
    refine Ev.step (f := fun k => (bastilleref02_Deep.f k (rd_T43 v.f3 (i : Int)).f0 (rd_T43 v.f3 (i : Int)).f1 (rd_T43 v.f3 (i : Int)).f2 (rd_T43 v.f3 (i : Int)).f3).bind fun t => if wrap64 (t + 1) > (s : Int) then bastilleref02_Deep.l0 k (wrap64 (t + 1)) ((i + 1 : Nat) : Int) v.f0 v.f1 v.f2 v.f3 else bastilleref02_Deep.l0 k (s : Int) ((i + 1 : Nat) : Int) v.f0 v.f1 v.f2 v.f3) (fun k => ?_) (Ev.bind (ih _ (memS v.f3 i hlt)) ?_)
    · simp only [bastilleref02_Deep.l0]
      simp only [if_pos (Int.ofNat_lt.2 hlt), if_pos (Int.natCast_nonneg i)]
      rw [ix_next i (by omega)]
    · simp only [deepL]
      generalize deepS (rd_T43 v.f3 (i : Int)) = d at hd ⊢
      rw [show wrap64 ((d : Int) + 1) = ((d + 1 : Nat) : Int) by rw [w64i (by omega) (by omega)]; omega]
      by_cases hgt : ((d + 1 : Nat) : Int) > (s : Int)
      · simp only [if_pos hgt]
        have := ihj (i + 1) (d + 1) (by omega) (by omega)
        rw [show max s (1 + max d (deepL (v.f3.drop (i + 1)))) = max (d + 1) (1 + deepL (v.f3.drop (i + 1))) by omega]
        exact this
      · simp only [if_neg hgt]
        have := ihj (i + 1) s (by omega) (by omega)
        rw [show max s (1 + max d (deepL (v.f3.drop (i + 1)))) = max s (1 + deepL (v.f3.drop (i + 1))) by omega]
        exact this
theorem rdeep_ev (v : S43) : Small v → Ev (fun k => bastilleref02_Deep.f k v.f0 v.f1 v.f2 v.f3) ((deepS v : Nat) : Int) := by
  refine S_ind (P := fun v => Small v → Ev (fun k => bastilleref02_Deep.f k v.f0 v.f1 v.f2 v.f3) ((deepS v : Nat) : Int)) (fun v ih hs => ?_) v
  have hl3 := hs.len3
  have hsub := hs.sub
  by_cases h3 : v.f0 = 3
  · have := rdeepL v hl3 (fun x hx => by have := deep_le x; have := (hsub x hx).cnt; omega) (fun x hx => ih x hx (hsub x hx)) v.f3.length 0 1 (by omega) (by omega)
    rw [List.drop_zero] at this
    refine Ev.step (f := fun k => bastilleref02_Deep.l0 k ((1 : Nat) : Int) ((0 : Nat) : Int) v.f0 v.f1 v.f2 v.f3) (fun k => by simp only [bastilleref02_Deep.f]; rw [if_pos h3]; rfl) ?_
    rw [show deepS v = max 1 (1 + deepL v.f3) by obtain ⟨f0, f1, f2, f3⟩ := v; simp only at h3; simp only [deepS, h3, if_true]; omega]
    exact this
  · refine Ev.some_ (fun k => ?_)
    simp only [bastilleref02_Deep.f]
    rw [if_neg h3]
    obtain ⟨f0, f1, f2, f3⟩ := v
    simp only at h3
    simp [deepS, h3]
/-! the books' Pure -/
theorem rpureL (v : S43) (hl : v.f3.length ≤ 100000) (ih : ∀ x ∈ v.f3, Ev (fun k => bastilleref02_Pure.f k x.f0 x.f1 x.f2 x.f3) (pureS x)) :
    ∀ (j i : Nat), i + j = v.f3.length → Ev (fun k => bastilleref02_Pure.l0 k (i : Int) v.f0 v.f1 v.f2 v.f3) (pureL (v.f3.drop i)) := by
  intro j
  induction j with
  | zero =>
    intro i hi
    rw [drop_end v.f3 i (by omega)]
    refine Ev.some_ (fun k => ?_)
    simp only [bastilleref02_Pure.l0, pureL]
    rw [if_neg (by omega)]
  | succ j ihj =>
    intro i hi
    have hlt : i < v.f3.length := by omega
    rw [ixS v.f3 i hlt]
    refine Ev.step (f := fun k => (bastilleref02_Pure.f k (rd_T43 v.f3 (i : Int)).f0 (rd_T43 v.f3 (i : Int)).f1 (rd_T43 v.f3 (i : Int)).f2 (rd_T43 v.f3 (i : Int)).f3).bind fun t => if t = true then bastilleref02_Pure.l0 k ((i + 1 : Nat) : Int) v.f0 v.f1 v.f2 v.f3 else some false) (fun k => ?_) (Ev.bind (ih _ (memS v.f3 i hlt)) ?_)
    · simp only [bastilleref02_Pure.l0]
      simp only [if_pos (Int.ofNat_lt.2 hlt), if_pos (Int.natCast_nonneg i)]
      rw [ix_next i (by omega)]
    · simp only [pureL]
      cases hp : pureS (rd_T43 v.f3 (i : Int)) with
      | false => simp only [Bool.false_eq_true, if_false, Bool.false_and]; exact Ev.now _
      | true => simp only [if_true, Bool.true_and]; exact ihj (i + 1) (by omega)
theorem rpure_ev (v : S43) : Small v → Ev (fun k => bastilleref02_Pure.f k v.f0 v.f1 v.f2 v.f3) (pureS v) := by
  refine S_ind (P := fun v => Small v → Ev (fun k => bastilleref02_Pure.f k v.f0 v.f1 v.f2 v.f3) (pureS v)) (fun v ih hs => ?_) v
  have hl3 := hs.len3
  have hsub := hs.sub
  have e2 : ∀ l : List Int, ((l.length : Int) = 0) ↔ l.isEmpty = true := by intro l; cases l <;> simp <;> omega
  have e3 : ∀ l : List S43, ((l.length : Int) == 0) = l.isEmpty := by intro l; cases l <;> simp <;> omega
  have hloop := rpureL v hl3 (fun x hx => ih x hx (hsub x hx)) v.f3.length 0 (by omega)
  rw [List.drop_zero] at hloop
  obtain ⟨f0, f1, f2, f3⟩ := v
  simp only at ih hl3 hsub hloop
  have hbad : ∀ r, r = false → Ev (fun k => bastilleref02_Pure.j0 k true f0 f1 f2 f3) r := by
    intro r hr
    subst hr
    exact Ev.some_ (fun k => by simp [bastilleref02_Pure.j0])
  by_cases h1 : f0 = 1
  · subst h1
    refine Ev.some_ (fun k => ?_)
    simp only [bastilleref02_Pure.f, pureS, if_true, e2, e3]
    by_cases a1 : f1 ≥ 0 <;> by_cases a2 : f1 ≤ 4611686018427387904 <;> cases hq : f2.isEmpty <;> simp [a1, a2]
  by_cases h2 : f0 = 2
  · subst h2
    refine Ev.some_ (fun k => ?_)
    simp only [bastilleref02_Pure.f, pureS, if_true, e3, show ¬ (2 : Int) = 1 by decide, if_false]
    by_cases a1 : f1 = 0 <;> simp [a1]
  by_cases h3 : f0 = 3
  · subst h3
    simp only [pureS, if_true, show ¬ (3 : Int) = 1 by decide, show ¬ (3 : Int) = 2 by decide, if_false]
    by_cases a1 : f1 = 0
    · by_cases a2 : f2.isEmpty = true
      · refine Ev.step (f := fun k => bastilleref02_Pure.j0 k (decide ((f3.length : Int) > 4096)) 3 f1 f2 f3) (fun k => by simp only [bastilleref02_Pure.f, if_true, show ¬ (3 : Int) = 1 by decide, show ¬ (3 : Int) = 2 by decide, if_false]; rw [if_pos a1, if_pos ((e2 f2).2 a2)]) ?_
        by_cases a3 : f3.length ≤ 4096
        · rw [decide_eq_false (show ¬ (f3.length : Int) > 4096 by omega)]
          refine Ev.step (f := fun k => bastilleref02_Pure.l0 k ((0 : Nat) : Int) 3 f1 f2 f3) (fun k => by simp [bastilleref02_Pure.j0]) ?_
          simp only [a1, a2, a3, decide_true, Bool.true_and] at hloop ⊢
          exact hloop
        · rw [decide_eq_true (show (f3.length : Int) > 4096 by omega)]
          exact hbad _ (by simp [a3])
      · refine Ev.step (f := fun k => bastilleref02_Pure.j0 k true 3 f1 f2 f3) (fun k => by simp only [bastilleref02_Pure.f, if_true, show ¬ (3 : Int) = 1 by decide, show ¬ (3 : Int) = 2 by decide, if_false]; rw [if_pos a1, if_neg (fun h => a2 ((e2 f2).1 h))]) ?_
        exact hbad _ (by simp [a2])
    · refine Ev.step (f := fun k => bastilleref02_Pure.j0 k true 3 f1 f2 f3) (fun k => by simp only [bastilleref02_Pure.f, if_true, show ¬ (3 : Int) = 1 by decide, show ¬ (3 : Int) = 2 by decide, if_false]; rw [if_neg a1]) ?_
      exact hbad _ (by simp [a1])
  · refine Ev.step (f := fun k => bastilleref02_Pure.j0 k true f0 f1 f2 f3) (fun k => by simp only [bastilleref02_Pure.f]; rw [if_neg h1, if_neg h2, if_neg h3]) ?_
    exact hbad _ (by simp [pureS, h1, h2, h3])

/-! the books' Bytes -/
theorem rb_num (v : S43) (h0 : 0 ≤ v.f1) (h1 : v.f1 ≤ 4611686018427387904) : ∀ (m : Nat) (n : Int) (s : Nat), m ≤ 8 → 0 ≤ n → n ≤ 4611686018427387904 → n / 2 ^ (8 * m) = 0 → s + digs m n = digs 8 v.f1 → Ev (fun k => bastilleref02_Bytes.l0 k (s : Int) n v.f0 v.f1 v.f2 v.f3) (numB v.f1) := by
  have d8 := digs_le 8 v.f1
  have exit : ∀ (n : Int) (s : Nat), ¬ n > 0 → s = digs 8 v.f1 → Ev (fun k => bastilleref02_Bytes.l0 k (s : Int) n v.f0 v.f1 v.f2 v.f3) (numB v.f1) := by
    intro n s hn hs
    subst hs
    by_cases hz : digs 8 v.f1 = 0
    · refine Ev.some_ (fun k => ?_)
      simp only [bastilleref02_Bytes.l0]
      rw [if_neg hn, hz]
      simp [numB, hz, lowL]
    · have hv : v.f1 ≠ 0 := by intro h; rw [h] at hz; simp [digs] at hz
      refine Ev.step (f := fun k => (bastilleref01_Put.f k v.f1 (digs 8 v.f1 : Int)).bind fun bt => if 2 + bt.1.length < 140737488355328 then some ([1, (digs 8 v.f1 : Int) % 256] ++ bt.1) else none) (fun k => ?_) ?_
      · simp only [bastilleref02_Bytes.l0, Option.bind_some]
        rw [if_neg hn, if_pos (show ((digs 8 v.f1 : Nat) : Int) > 0 by omega)]
        rfl
      · refine Ev.bind (Ev.fin 12 (fun k hk => rput v.f1 _ k hk)) ?_
        rw [(plain_num v.f1 h0 h1).2, if_neg hv]
        simp only [List.length_reverse, lowL_length]
        rw [if_pos (by omega), show (digs 8 v.f1 : Int) % 256 = (digs 8 v.f1 : Int) by omega]
        exact Ev.now _
  intro m
  induction m with
  | zero =>
    intro n s _ h2 _ h3 h4
    simp at h3
    exact exit n s (by omega) (by rw [show digs 0 n = 0 by simp [digs]] at h4; omega)
  | succ m ih =>
    intro n s hm h2 hn2 h3 h4
    by_cases hn : n > 0
    · have hq : n / 256 / 2 ^ (8 * m) = 0 := by rw [Int.ediv_ediv_of_nonneg (by decide), ← h3, show (2 : Int) ^ (8 * (m + 1)) = 256 * 2 ^ (8 * m) by rw [show 8 * (m + 1) = 8 * m + 8 by omega, Int.pow_add]; omega]
      refine Ev.step (f := fun k => bastilleref02_Bytes.l0 k ((s + 1 : Nat) : Int) (n / 256) v.f0 v.f1 v.f2 v.f3) (fun k => ?_) (ih (n / 256) (s + 1) (by omega) (by omega) (by omega) hq (by rw [show digs (m + 1) n = digs m (n / 256) + 1 by simp [digs, hn]] at h4; omega))
      simp only [bastilleref02_Bytes.l0]
      rw [if_pos hn, Int.tdiv_eq_ediv_of_nonneg h2, ix_next s (by omega), w64i (by omega) (by omega)]
    · exact exit n s hn (by rw [show digs (m + 1) n = 0 by simp [digs, hn]] at h4; omega)
theorem rbytesL (v : S43) (hl : v.f3.length ≤ 100000) (ih : ∀ x ∈ v.f3, Ev (fun k => bastilleref02_Bytes.f k x.f0 x.f1 x.f2 x.f3) (bytesS x)) :
    ∀ (j i : Nat) (o : List Int), i + j = v.f3.length → o.length + (bytesL (v.f3.drop i)).length ≤ 100000000000 → Ev (fun k => bastilleref02_Bytes.l1 k o (i : Int) v.f0 v.f1 v.f2 v.f3) (o ++ bytesL (v.f3.drop i)) := by
  intro j
  induction j with
  | zero =>
    intro i o hi _
    rw [drop_end v.f3 i (by omega)]
    refine Ev.some_ (fun k => ?_)
    simp only [bastilleref02_Bytes.l1, bytesL, List.append_nil]
    rw [if_neg (by omega)]
  | succ j ihj =>
    intro i o hi ho
    have hlt : i < v.f3.length := by omega
    rw [ixS v.f3 i hlt] at ho ⊢
    simp only [bytesL, List.length_append] at ho ⊢
    refine Ev.step (f := fun k => (bastilleref02_Bytes.f k (rd_T43 v.f3 (i : Int)).f0 (rd_T43 v.f3 (i : Int)).f1 (rd_T43 v.f3 (i : Int)).f2 (rd_T43 v.f3 (i : Int)).f3).bind fun t => if o.length + t.length < 140737488355328 then bastilleref02_Bytes.l1 k (o ++ t) ((i + 1 : Nat) : Int) v.f0 v.f1 v.f2 v.f3 else none) (fun k => ?_) (Ev.bind (ih _ (memS v.f3 i hlt)) ?_)
    · simp only [bastilleref02_Bytes.l1]
      simp only [if_pos (Int.ofNat_lt.2 hlt), if_pos (Int.natCast_nonneg i)]
      rw [ix_next i (by omega)]
    · have hq : o.length + (bytesS (rd_T43 v.f3 (i : Int))).length < 140737488355328 := by omega
      simp only [if_pos hq]
      rw [← List.append_assoc]
      exact ihj (i + 1) _ (by omega) (by simp only [List.length_append]; omega)
theorem rbytes_ev (v : S43) : Small v → pureS v = true → Ev (fun k => bastilleref02_Bytes.f k v.f0 v.f1 v.f2 v.f3) (bytesS v) := by
  refine S_ind (P := fun v => Small v → pureS v = true → Ev (fun k => bastilleref02_Bytes.f k v.f0 v.f1 v.f2 v.f3) (bytesS v)) (fun v ih hs hp => ?_) v
  have hl2 := hs.len2
  have hl3 := hs.len3
  have hsub := hs.sub
  have hb3 := bytesL_small v.f3 (fun x hx => (hsub x hx).ok)
  have hc3 := cnt_f3 v
  have hc := hs.cnt
  by_cases h1 : v.f0 = 1
  · have hp1 : 0 ≤ v.f1 ∧ v.f1 ≤ 4611686018427387904 := by
      obtain ⟨f0, f1, f2, f3⟩ := v
      simp only at h1
      subst h1
      simp only [pureS, if_true, Bool.and_eq_true, decide_eq_true_eq] at hp
      exact ⟨hp.1.1.1, hp.1.1.2⟩
    have e : bytesS v = numB v.f1 := by obtain ⟨f0, f1, f2, f3⟩ := v; simp only at h1; simp [bytesS, h1]
    rw [e]
    refine Ev.step (f := fun k => bastilleref02_Bytes.l0 k ((0 : Nat) : Int) v.f1 v.f0 v.f1 v.f2 v.f3) (fun k => by simp only [bastilleref02_Bytes.f]; rw [if_pos h1]; rfl) (rb_num v hp1.1 hp1.2 8 v.f1 0 (by omega) hp1.1 hp1.2 ?_ (by omega))
    rw [show (2 : Int) ^ (8 * 8) = 18446744073709551616 by rfl]; omega
  by_cases h2 : v.f0 = 2
  · have e : bytesS v = [2] ++ (lowL (v.f2.length : Int) 3).reverse ++ v.f2 := by obtain ⟨f0, f1, f2, f3⟩ := v; simp only at h1 h2; simp [bytesS, h2]
    rw [e]
    refine Ev.step (f := fun k => (bastilleref01_Put.f k (v.f2.length : Int) 3).bind fun bt => if 1 + bt.1.length < 140737488355328 then (if ([2] ++ bt.1).length + v.f2.length < 140737488355328 then some ([2] ++ bt.1 ++ v.f2) else none) else none) (fun k => by simp only [bastilleref02_Bytes.f]; rw [if_neg h1, if_pos h2]; rfl) (Ev.bind (Ev.fin 12 (fun k hk => rput _ _ k hk)) ?_)
    rw [show (3 : Int) = ((3 : Nat) : Int) from rfl, low_ok v.f2.length 3 (by omega) (by omega) (num_le _ _ (by omega)) (by omega)]
    rw [if_pos (by rw [List.length_reverse, lowL_length]; omega), if_pos (by rw [List.length_append, List.length_reverse, lowL_length]; simp; omega)]
    exact Ev.now _
  · have e : bytesS v = [3] ++ (lowL (v.f3.length : Int) 2).reverse ++ bytesL v.f3 := by obtain ⟨f0, f1, f2, f3⟩ := v; simp only at h1 h2; simp [bytesS, h1, h2]
    have hp3 : v.f3.length ≤ 4096 ∧ pureL v.f3 = true := by
      obtain ⟨f0, f1, f2, f3⟩ := v
      simp only at h1 h2
      simp only [pureS, if_neg h1, if_neg h2] at hp
      by_cases h3 : f0 = 3
      · simp only [h3, if_true, Bool.and_eq_true, decide_eq_true_eq] at hp
        exact ⟨hp.1.2, hp.2⟩
      · simp [h3] at hp
    rw [e]
    refine Ev.step (f := fun k => (bastilleref01_Put.f k (v.f3.length : Int) 2).bind fun bt => if 1 + bt.1.length < 140737488355328 then bastilleref02_Bytes.l1 k ([3] ++ bt.1) ((0 : Nat) : Int) v.f0 v.f1 v.f2 v.f3 else none) (fun k => by simp only [bastilleref02_Bytes.f]; rw [if_neg h1, if_neg h2]; rfl) (Ev.bind (Ev.fin 12 (fun k hk => rput _ _ k hk)) ?_)
    rw [show (2 : Int) = ((2 : Nat) : Int) from rfl, low_ok v.f3.length 2 (by omega) (by omega) (num_le _ _ (by omega)) (by omega)]
    simp only [if_pos (show 1 + (lowL (v.f3.length : Int) 2).reverse.length < 140737488355328 by rw [List.length_reverse, lowL_length]; omega)]
    have := rbytesL v hl3 (fun x hx => ih x hx (hsub x hx) ((pureL_all _).1 hp3.2 x hx)) v.f3.length 0 ([3] ++ (lowL (v.f3.length : Int) 2).reverse) (by omega) (by simp [lowL_length]; omega)
    rw [List.drop_zero] at this
    exact this

/-! the bound on what is tried -/
def okG (l : List S43) : Prop := l.length ≤ maxLen ∧ ∀ y ∈ l, g43 y
theorem g_f3 {x : S43} (h : g43 x) : okG x.f3 := by cases h; rename_i a b c d e f; exact ⟨e, f⟩
theorem partsL (d : Nat) (hd : d ≤ 30) (l : List S43) (hl : okG l) (ih : ∀ x ∈ l, ∀ n : Int, 0 ≤ n → n ≤ 200 → ∃ r : Int, Ev (fun k => bastillelaw02_parts.f k x.f0 x.f1 x.f2 x.f3 n (d : Int)) r ∧ -1 ≤ r ∧ r ≤ n ∧ (0 ≤ r → r + cntS x ≤ n ∧ okS x = true)) :
    ∀ (j i : Nat) (n : Int), i + j = l.length → -1 ≤ n → n ≤ 200 → ∃ r : Int, Ev (fun k => bastillelaw02_parts.l0 k n ((d + 1 : Nat) : Int) l (l.length : Int) (i : Int)) r ∧ -1 ≤ r ∧ r ≤ n ∧ (0 ≤ r → r + cntL (l.drop i) ≤ n ∧ okL (l.drop i) = true) := by
  have hm : l.length ≤ 9223372036854775807 := hl.1
  intro j
  induction j with
  | zero =>
    intro i n hi h0 h1
    refine ⟨n, Ev.some_ (fun k => ?_), h0, by omega, ?_⟩
    · simp only [bastillelaw02_parts.l0]
      rw [if_neg (by omega)]
    · rw [drop_end l i (by omega)]
      simp [cntL, okL]
  | succ j ihj =>
    intro i n hi h0 h1
    have hlt : i < l.length := by omega
    rw [ixS l i hlt]
    have e0 : ∀ k, bastillelaw02_parts.l0 (k + 1) n ((d + 1 : Nat) : Int) l (l.length : Int) (i : Int) = if n < 0 then some (-1) else (bastillelaw02_parts.f k (rd_T43 l (i : Int)).f0 (rd_T43 l (i : Int)).f1 (rd_T43 l (i : Int)).f2 (rd_T43 l (i : Int)).f3 n (d : Int)).bind fun t => bastillelaw02_parts.l0 k t ((d + 1 : Nat) : Int) l (l.length : Int) ((i + 1 : Nat) : Int) := by
      intro k
      simp only [bastillelaw02_parts.l0]
      simp only [if_pos (Int.ofNat_lt.2 hlt), if_pos (Int.natCast_nonneg i)]
      rw [ix_next i (by omega), show wrap64 (((d + 1 : Nat) : Int) - 1) = (d : Int) by rw [w64i (by omega) (by omega)]; omega]
    by_cases hn : n < 0
    · exact ⟨-1, Ev.some_ (fun k => by rw [e0, if_pos hn]), by omega, by omega, fun h => by omega⟩
    · obtain ⟨t, et, t0, t1, t2⟩ := ih _ (memS l i hlt) n (by omega) h1
      obtain ⟨r, er, r0, r1, r2⟩ := ihj (i + 1) t (by omega) t0 (by omega)
      refine ⟨r, Ev.step (f := fun k => (bastillelaw02_parts.f k (rd_T43 l (i : Int)).f0 (rd_T43 l (i : Int)).f1 (rd_T43 l (i : Int)).f2 (rd_T43 l (i : Int)).f3 n (d : Int)).bind fun t => bastillelaw02_parts.l0 k t ((d + 1 : Nat) : Int) l (l.length : Int) ((i + 1 : Nat) : Int)) (fun k => by rw [e0, if_neg hn]) (Ev.bind et er), r0, by omega, fun h => ?_⟩
      obtain ⟨a1, a2⟩ := r2 h
      obtain ⟨b1, b2⟩ := t2 (by omega)
      simp only [cntL, okL, a2, b2, Bool.and_true]
      exact ⟨by omega, trivial⟩
theorem parts_ev : ∀ (d : Nat), d ≤ 30 → ∀ (v : S43), okG v.f3 → ∀ n : Int, 0 ≤ n → n ≤ 200 → ∃ r : Int, Ev (fun k => bastillelaw02_parts.f k v.f0 v.f1 v.f2 v.f3 n (d : Int)) r ∧ -1 ≤ r ∧ r ≤ n ∧ (0 ≤ r → r + cntS v ≤ n ∧ okS v = true) := by
  intro d
  induction d with
  | zero =>
    intro _ v hv n h0 h1
    refine ⟨-1, Ev.step (f := fun k => bastillelaw02_parts.j0 k (wrap64 (n - 1)) ((0 : Nat) : Int) true v.f0 v.f1 v.f2 v.f3) (fun k => by simp [bastillelaw02_parts.f]) (Ev.some_ (fun k => by simp [bastillelaw02_parts.j0])), by omega, by omega, fun h => by omega⟩
  | succ d ih =>
    intro hd v hv n h0 h1
    have e0 : ∀ k, bastillelaw02_parts.f (k + 1) v.f0 v.f1 v.f2 v.f3 n ((d + 1 : Nat) : Int) = bastillelaw02_parts.j0 k (n - 1) ((d + 1 : Nat) : Int) (decide ((v.f2.length : Int) > 2000)) v.f0 v.f1 v.f2 v.f3 := by
      intro k
      simp only [bastillelaw02_parts.f]
      rw [if_neg (by omega), w64i (by omega) (by omega)]
    by_cases hb : (v.f2.length : Int) > 2000
    · refine ⟨-1, Ev.step e0 (Ev.some_ (fun k => by rw [decide_eq_true hb]; simp [bastillelaw02_parts.j0])), by omega, by omega, fun h => by omega⟩
    · obtain ⟨r, er, r0, r1, r2⟩ := partsL d (by omega) v.f3 hv (fun x hx => ih (by omega) x (g_f3 (hv.2 x hx))) v.f3.length 0 (n - 1) (by omega) (by omega) (by omega)
      rw [List.drop_zero] at r2
      refine ⟨r, Ev.step e0 (Ev.step (f := fun k => bastillelaw02_parts.l0 k (n - 1) ((d + 1 : Nat) : Int) v.f3 (v.f3.length : Int) ((0 : Nat) : Int)) (fun k => by rw [decide_eq_false hb]; simp [bastillelaw02_parts.j0]) er), r0, by omega, fun h => ?_⟩
      obtain ⟨a1, a2⟩ := r2 h
      have := cnt_f3 v
      refine ⟨by omega, ?_⟩
      obtain ⟨f0, f1, f2, f3⟩ := v
      simp only at a2 hb
      simp only [okS, a2, Bool.and_true, decide_eq_true_eq]
      omega
theorem few_ev (v : S43) (hv : okG v.f3) : ∃ b, Ev (fun k => bastillelaw02_Few.f k v.f0 v.f1 v.f2 v.f3) b ∧ (b = true → Small v) := by
  obtain ⟨r, er, r0, r1, r2⟩ := parts_ev 30 (by omega) v hv 200 (by omega) (by omega)
  refine ⟨decide (r ≥ 0), ?_, fun h => ?_⟩
  · unfold bastillelaw02_Few.f
    exact Ev.bind er (Ev.now _)
  · obtain ⟨a, b⟩ := r2 (of_decide_eq_true h)
    exact ⟨by omega, b⟩
theorem awake_ev : Ev (fun k => bastillelaw02_awake.f k) true := Ev.of (fun k => bastillelaw02_awake.mono k) (k := 30) (by decide +kernel)
def rightS (v : S43) : Bool := pureS v && decide (deepS v ≤ 16) && decide ((bytesS v).length ≤ 1048576)
theorem right_ev (v : S43) (hs : Small v) : Ev (fun k => bastilleref02_Right.f k v.f0 v.f1 v.f2 v.f3) (rightS v) := by
  unfold bastilleref02_Right.f rightS
  refine Ev.bind (rpure_ev v hs) ?_
  cases hp : pureS v with
  | false => exact Ev.now _
  | true =>
    simp only [if_true, Bool.true_and]
    refine Ev.bind (rdeep_ev v hs) ?_
    by_cases hd : deepS v ≤ 16
    · simp only [if_pos (show (deepS v : Int) ≤ 16 by omega)]
      rw [decide_eq_true hd]
      refine Ev.bind (rbytes_ev v hs hp) ?_
      rw [Bool.true_and, show decide (((bytesS v).length : Int) ≤ 1048576) = decide ((bytesS v).length ≤ 1048576) by congr 1; exact propext ⟨fun h => by omega, fun h => by omega⟩]
      exact Ev.now _
    · simp only [if_neg (show ¬ (deepS v : Int) ≤ 16 by omega)]
      rw [decide_eq_false hd]
      exact Ev.now _
theorem size_ev (v : S43) (hs : Small v) : Ev (fun k => codec_Size.f k v.f0 v.f1 v.f2 v.f3) (if rightS v = true then ((bytesS v).length : Int) else 0, rightS v) := by
  obtain ⟨n, ok, e, m⟩ := meas_ev v hs 1048576 16 (by omega) (by omega) (by omega) (by omega)
  unfold codec_Size.f
  refine Ev.bind e ?_
  cases ok with
  | false =>
    have hr : rightS v = false := by
      cases h : rightS v with
      | false => rfl
      | true =>
        simp only [rightS, Bool.and_eq_true, decide_eq_true_eq] at h
        have := m.fits ⟨h.1.1, by omega⟩ (by omega)
        cases this
    rw [hr]
    exact Ev.now _
  | true =>
    obtain ⟨⟨g1, g2⟩, hn⟩ := m.yes rfl
    simp only [if_true]
    by_cases hb : n > 1048576
    · rw [if_pos hb, show rightS v = false by simp [rightS]; omega]
      exact Ev.now _
    · rw [if_neg hb, show rightS v = true by simp [rightS, g1]; omega, hn]
      exact Ev.now _
theorem encode_ev (v : S43) (hs : Small v) : Ev (fun k => codec_Encode.f k v.f0 v.f1 v.f2 v.f3) (if rightS v = true then (bytesS v, 0) else ([], 2)) := by
  unfold codec_Encode.f
  refine Ev.bind (size_ev v hs) ?_
  cases hr : rightS v with
  | false => exact Ev.now _
  | true =>
    simp only [if_true]
    simp only [rightS, Bool.and_eq_true, decide_eq_true_eq] at hr
    refine Ev.bind (put_ev v hs hr.1.1 [] (by simp; omega)) (Ev.now _)
theorem CodecEncodes : bastillelaw02_CodecEncodes.Pure := by
  intro a0 a1 l2 l3 _ _ _ h3
  refine Ev.rounds (r := true) ?_
  unfold bastillelaw02_CodecEncodes.f
  refine Ev.bind awake_ev ?_
  simp only [if_true]
  obtain ⟨b, eb, hb⟩ := few_ev ⟨a0, a1, l2, l3⟩ h3
  refine Ev.bind eb ?_
  cases b with
  | false => exact Ev.now _
  | true =>
    have hs := hb rfl
    simp only [if_true]
    refine Ev.bind (size_ev _ hs) (Ev.bind (encode_ev _ hs) (Ev.bind (a := ((min (deepS (⟨a0, a1, l2, l3⟩ : S43)) 17 : Nat) : Int)) ?_ (Ev.bind (rdeep_ev _ hs) ?_)))
    · unfold codec_Depth.f
      exact Ev.bind (depth_ev _ hs 17 (by omega)) (Ev.now _)
    have hmn : ∀ d : Nat, ((min d 17 : Nat) : Int) = mn (d : Int) 17 := by intro d; unfold mn; split <;> omega
    simp only [if_pos (hmn (deepS (⟨a0, a1, l2, l3⟩ : S43)))]
    refine Ev.bind (right_ev _ hs) ?_
    cases hr : rightS (⟨a0, a1, l2, l3⟩ : S43) with
    | false => exact Ev.now _
    | true =>
      simp only [if_true]
      simp only [rightS, Bool.and_eq_true, decide_eq_true_eq] at hr
      refine Ev.bind (rbytes_ev _ hs hr.1.1) ?_
      simp only [if_true]
      exact Ev.bind (Ev.fin ((bytesS (⟨a0, a1, l2, l3⟩ : S43)).length + 1) (fun k hk => same_refl _ (by omega) k hk)) (Ev.now _)

end Go.Proofs.Ytiibnfnjfmcggaa.Pure
