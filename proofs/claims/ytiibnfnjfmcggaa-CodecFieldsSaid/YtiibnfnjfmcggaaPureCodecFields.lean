/- The plain law of the statement CodecFields, for every input. -/
import Derived.Test.YtiibnfnjfmcggaaPCodecFieldsg
import Derived.Laws.BitsAllLaws
namespace Go.Proofs.Ytiibnfnjfmcggaa.Pure
open Go.RowKit Go.Proofs.Ytiibnfnjfmcggaa.PCodecFields Go.Proofs.YtiibnfnjfmcggaaW.PrintWords Go.Proofs.YtiibnfnjfmcggaaW.PrintLast Go.Proofs.YtiibnfnjfmcggaaW.PrintMore
set_option linter.unusedVariables false
set_option linter.unusedSimpArgs false

/-! ### plain laws: numbers as bytes -/
theorem w64i {x : Int} (h0 : -9223372036854775808 ≤ x) (h1 : x ≤ 9223372036854775807) : wrap64 x = x := by unfold wrap64; omega
theorem u64i {x : Int} (h0 : 0 ≤ x) (h1 : x ≤ 18446744073709551615) : IntKind.u64.wrap x = x := by
  simp only [IntKind.wrap, IntKind.bits, IntKind.signed]
  simp
  omega
theorem rounds_ex {k m : Nat} (h : m + 1 ≤ k) : ∃ j, k = j + 1 ∧ m ≤ j := ⟨k - 1, by omega, by omega⟩
def byteAt (n : Int) (j : Nat) : Int := n / 2 ^ (8 * j) % 256
def lowL (n : Int) (s : Nat) : List Int := (List.range' 0 s).map (byteAt n)
theorem byteAt_succ (n : Int) (j : Nat) : byteAt (n / 256) j = byteAt n (j + 1) := by
  unfold byteAt
  rw [Int.ediv_ediv_of_nonneg (by decide), show (2 : Int) ^ (8 * (j + 1)) = 256 * 2 ^ (8 * j) by rw [show 8 * (j + 1) = 8 * j + 8 by omega, Int.pow_add]; omega]
theorem shr_byte (n : Int) (i : Nat) (hi : i ≤ 8) : shr .i64 n (8 * (i : Int)) = n / 2 ^ (8 * i) := by
  unfold shr
  rw [show (8 * (i : Int)).toNat = 8 * i by omega, Nat.min_eq_left (by simp [IntKind.bits]; omega)]
def lowBad (n s : Int) : Bool := decide (s < 1) || decide (s > 8) || decide (n < 0) || decide (n > 4611686018427387904) || (decide (s < 8) && decide (n / 2 ^ (8 * s.toNat) ≠ 0))
def lowS (n s : Int) : List Int × Int := if lowBad n s then ([], 2) else (lowL n s.toNat, 0)

theorem word_low_l0 (n : Int) (s : Nat) (hs : s ≤ 8) : ∀ (d k i : Nat) (l : List Int), i + d = s → l.length = s → d < k →
    word_Low.l0 k n l (s : Int) (i : Int) = some (l.take i ++ (List.range' i d).map (byteAt n), 0) := by
  intro d
  induction d with
  | zero =>
    intro k i l h1 h2 hk
    obtain ⟨k, rfl, _⟩ := rounds_ex (m := 0) (by omega : 0 + 1 ≤ k)
    simp only [word_Low.l0]
    rw [if_neg (by omega), List.take_of_length_le (by omega)]
    simp
  | succ d ih =>
    intro k i l h1 h2 hk
    obtain ⟨k, rfl, hk'⟩ := rounds_ex (m := d + 1) (by omega : d + 1 + 1 ≤ k)
    have e : IntKind.u64.wrap (wrap64 (8 * (i : Int))) = 8 * (i : Int) := by rw [w64i (by omega) (by omega), u64i (by omega) (by omega)]
    simp only [word_Low.l0]
    rw [if_pos (by omega), e, if_pos (by omega), if_pos (by omega), if_pos (by omega), w64i (by omega) (by omega), shr_byte n i (by omega)]
    have := ih k (i + 1) (l.set (i : Int).toNat (n / 2 ^ (8 * i) % 256)) (by omega) (by simpa using h2) (by omega)
    rw [show (((i + 1 : Nat)) : Int) = (i : Int) + 1 by omega] at this
    rw [this]
    have e2 : (i : Int).toNat = i := by omega
    rw [e2, List.range'_succ, List.map_cons, List.take_succ_eq_append_getElem (by simp; omega), List.getElem_set_self, List.take_set_of_le (Nat.le_refl _), List.append_assoc]
    rfl

theorem word_low_bad (k : Nat) (n s : Int) (hk : 1 ≤ k) : word_Low.j0 k n s true = some ([], 2) := by
  obtain ⟨k, rfl, _⟩ := rounds_ex (m := 0) (by omega : 0 + 1 ≤ k)
  simp [word_Low.j0]
theorem word_low_good (k : Nat) (n s : Int) (h1 : 1 ≤ s) (h2 : s ≤ 8) (hk : 12 ≤ k) : word_Low.j0 k n s false = some (lowL n s.toNat, 0) := by
  obtain ⟨k, rfl, hk⟩ := rounds_ex (m := 11) (by omega : 11 + 1 ≤ k)
  simp only [word_Low.j0]
  rw [if_neg (by simp), if_pos (by omega), if_pos (by omega)]
  simp only [Option.bind_some, List.length_replicate]
  have := word_low_l0 n s.toNat (by omega) s.toNat k 0 (List.replicate s.toNat 0) (by omega) (by simp) (by omega)
  rw [show ((0 : Nat) : Int) = 0 by rfl] at this
  rw [this]
  simp [lowL]
theorem word_low (n s : Int) (k : Nat) (hk : 12 ≤ k) : word_Low.f k n s = some (lowS n s) := by
  unfold word_Low.f lowS lowBad
  by_cases h1 : s < 1
  · rw [if_pos h1, word_low_bad k n s (by omega)]; simp [h1]
  by_cases h2 : s > 8
  · rw [if_neg h1, if_pos h2, word_low_bad k n s (by omega)]; simp [h2]
  by_cases h3 : n < 0
  · rw [if_neg h1, if_neg h2, if_pos h3, word_low_bad k n s (by omega)]; simp [h3]
  by_cases h4 : n > 4611686018427387904
  · rw [if_neg h1, if_neg h2, if_neg h3, if_pos h4, word_low_bad k n s (by omega)]; simp [h4]
  rw [if_neg h1, if_neg h2, if_neg h3, if_neg h4]
  by_cases h5 : s < 8
  · have e : IntKind.u64.wrap (wrap64 (8 * s)) = 8 * s := by rw [w64i (by omega) (by omega), u64i (by omega) (by omega)]
    rw [if_pos h5, e, if_pos (by omega)]
    have e2 := shr_byte n s.toNat (by omega)
    rw [show ((s.toNat : Nat) : Int) = s by omega] at e2
    rw [e2]
    by_cases h6 : n / 2 ^ (8 * s.toNat) = 0
    · rw [h6, show ((0 : Int) != 0) = false by rfl, word_low_good k n s (by omega) (by omega) hk]
      simp [h1, h2, h3, h4]
    · rw [show ((n / 2 ^ (8 * s.toNat)) != 0) = true by simpa using h6, word_low_bad k n s (by omega)]
      simp [h5, h6]
  · rw [if_neg h5, word_low_good k n s (by omega) (by omega) hk]
    simp [h1, h2, h3, h4, h5]
theorem lowL_length (n : Int) (s : Nat) : (lowL n s).length = s := by simp [lowL]
theorem lowS_length (n s : Int) : (lowS n s).1.length ≤ 8 := by
  unfold lowS
  split
  · simp
  · rename_i h
    simp [lowBad] at h
    simp [lowL_length]; omega
theorem word_put (n s : Int) (k : Nat) (hk : 12 ≤ k) : word_Put.f k n s = some ((lowS n s).1.reverse, (lowS n s).2) := by
  unfold word_Put.f
  rw [word_low n s k hk]
  simp only [Option.bind_some, word_turned_byte.f]
  have := lowS_length n s
  rw [if_pos (by omega)]
  rfl

theorem lowL_succ (n : Int) (s : Nat) : lowL n (s + 1) = n % 256 :: lowL (n / 256) s := by
  unfold lowL
  rw [List.range'_succ, List.map_cons]
  congr 1
  · simp [byteAt]
  · apply List.ext_getElem (by simp)
    intro j _ _
    simp only [List.getElem_map, List.getElem_range', Nat.one_mul, Nat.zero_add]
    rw [byteAt_succ, Nat.add_comm]

/-! ### loops, by 'from some number of rounds on' -/
theorem w64w (a : Int) : wrap64 (wrap64 a) = wrap64 a := by unfold wrap64; omega
theorem w64l (a b : Int) : wrap64 (wrap64 a + b) = wrap64 (a + b) := by unfold wrap64; omega
theorem w64r (a b : Int) : wrap64 (a + wrap64 b) = wrap64 (a + b) := by unfold wrap64; omega
theorem w64mul (c a : Int) : wrap64 (c * wrap64 a) = wrap64 (c * a) := by
  have e : ∀ x : Int, wrap64 x = x - 18446744073709551616 * ((x + 9223372036854775808) / 18446744073709551616) := by intro x; unfold wrap64; omega
  rw [e a, Int.mul_sub, ← Int.mul_assoc, Int.mul_comm c 18446744073709551616, Int.mul_assoc]
  unfold wrap64
  omega
theorem w64lr (a b : Int) : wrap64 (wrap64 a + wrap64 b) = wrap64 (a + b) := by rw [w64l, w64r]
theorem ix_next (i : Nat) (h : (i : Int) < 9223372036854775807) : wrap64 ((i : Int) + 1) = ((i + 1 : Nat) : Int) := by rw [w64i (by omega) (by omega)]; omega
theorem Ev.some_ {α : Type} {g : Nat → Option α} {r : α} (h : ∀ k, g (k + 1) = some r) : Ev g r := Ev.step h (Ev.now r)
def tot {α : Type} (f : α → Int) : List α → Int
  | [] => 0
  | x :: t => f x + tot f t
theorem getD_drop {α : Type} (l : List α) (z : α) (i : Nat) (h : i < l.length) : l.drop i = l.getD (i : Int).toNat z :: l.drop (i + 1) := by
  rw [List.drop_eq_getElem_cons h, show (i : Int).toNat = i by omega]
  congr 1
  simp [List.getD, List.getElem?_eq_getElem h]
theorem drop_end {α : Type} (l : List α) (i : Nat) (h : i = l.length) : l.drop i = [] := List.drop_of_length_le (by omega)

/-! ### plain laws: trees of values -/
theorem S_ind {P : S43 → Prop} (h : ∀ v : S43, (∀ x ∈ v.f3, P x) → P v) : ∀ v, P v := by
  have key : ∀ (n : Nat) (v : S43), SizeOf.sizeOf v ≤ n → P v := by
    intro n
    induction n with
    | zero => intro v hv; cases v; simp at hv
    | succ n ih =>
      intro v hv
      refine h v (fun x hx => ih x ?_)
      have h1 := List.sizeOf_lt_of_mem hx
      have h2 : SizeOf.sizeOf v.f3 < SizeOf.sizeOf v := by cases v; simp <;> omega
      omega
  intro v
  exact key _ v (Nat.le_refl _)
def digs : Nat → Int → Nat
  | 0, _ => 0
  | m + 1, n => if n > 0 then digs m (n / 256) + 1 else 0
def numB (n : Int) : List Int := 1 :: (digs 8 n : Int) :: (lowL n (digs 8 n)).reverse
mutual
def bytesS : S43 → List Int
  | ⟨f0, f1, f2, f3⟩ => if f0 = 1 then numB f1 else if f0 = 2 then [2] ++ (lowL f2.length 3).reverse ++ f2 else [3] ++ (lowL f3.length 2).reverse ++ bytesL f3
def bytesL : List S43 → List Int
  | [] => []
  | x :: t => bytesS x ++ bytesL t
end
mutual
def pureS : S43 → Bool
  | ⟨f0, f1, f2, f3⟩ => if f0 = 1 then decide (f1 ≥ 0) && decide (f1 ≤ 4611686018427387904) && f2.isEmpty && f3.isEmpty else if f0 = 2 then decide (f1 = 0) && f3.isEmpty else if f0 = 3 then decide (f1 = 0) && f2.isEmpty && decide (f3.length ≤ 4096) && pureL f3 else false
def pureL : List S43 → Bool
  | [] => true
  | x :: t => pureS x && pureL t
end
mutual
def deepS : S43 → Nat
  | ⟨f0, _, _, f3⟩ => if f0 = 3 then 1 + deepL f3 else 0
def deepL : List S43 → Nat
  | [] => 0
  | x :: t => max (deepS x) (deepL t)
end
mutual
def cntS : S43 → Nat
  | ⟨_, _, _, f3⟩ => 1 + cntL f3
def cntL : List S43 → Nat
  | [] => 0
  | x :: t => cntS x + cntL t
end
mutual
def okS : S43 → Bool
  | ⟨_, _, f2, f3⟩ => decide (f2.length ≤ 100000) && okL f3
def okL : List S43 → Bool
  | [] => true
  | x :: t => okS x && okL t
end
theorem okL_all (l : List S43) : okL l = true ↔ ∀ x ∈ l, okS x = true := by
  induction l with
  | nil => simp [okL]
  | cons x t ih => simp [okL, ih]
theorem pureL_all (l : List S43) : pureL l = true ↔ ∀ x ∈ l, pureS x = true := by
  induction l with
  | nil => simp [pureL]
  | cons x t ih => simp [pureL, ih]
theorem cntL_mem (l : List S43) : ∀ x ∈ l, cntS x ≤ cntL l := by
  induction l with
  | nil => simp
  | cons y t ih =>
    intro x hx
    rcases List.mem_cons.1 hx with rfl | hx
    · simp [cntL]
    · have := ih x hx
      simp [cntL]
      omega
theorem cntS_pos (v : S43) : 1 ≤ cntS v := by cases v; simp [cntS]
theorem cntL_len (l : List S43) : l.length ≤ cntL l := by
  induction l with
  | nil => simp
  | cons x t ih =>
    have := cntS_pos x
    simp [cntL]
    omega
theorem cntL_drop (l : List S43) (i : Nat) : cntL (l.drop i) ≤ cntL l := by
  induction l generalizing i with
  | nil => simp
  | cons x t ih =>
    cases i with
    | zero => simp
    | succ i =>
      have := ih i
      simp [cntL]
      omega
theorem cnt_f3 (v : S43) : cntS v = 1 + cntL v.f3 := by cases v; simp [cntS]
theorem ok_f3 (v : S43) (h : okS v = true) : v.f2.length ≤ 100000 ∧ ∀ x ∈ v.f3, okS x = true := by
  cases v
  simp only [okS, Bool.and_eq_true, decide_eq_true_eq] at h
  exact ⟨h.1, (okL_all _).1 h.2⟩
/-- what is asked of a tree, so that no sum passes its bounds -/
structure Small (v : S43) : Prop where
  cnt : cntS v ≤ 100000
  ok : okS v = true
theorem Small.sub {v : S43} (h : Small v) : ∀ x ∈ v.f3, Small x := fun x hx => ⟨by have := cntL_mem _ x hx; have := cnt_f3 v; have := h.cnt; omega, (ok_f3 v h.ok).2 x hx⟩
theorem Small.len3 {v : S43} (h : Small v) : v.f3.length ≤ 100000 := by have := cntL_len v.f3; have := cnt_f3 v; have := h.cnt; omega
theorem Small.len2 {v : S43} (h : Small v) : v.f2.length ≤ 100000 := (ok_f3 v h.ok).1
theorem digs_le : ∀ m n, digs m n ≤ m
  | 0, _ => Nat.le_refl _
  | m + 1, n => by
    simp only [digs]
    split
    · have := digs_le m (n / 256); omega
    · omega
theorem numB_length (n : Int) : (numB n).length ≤ 10 := by
  have := digs_le 8 n
  simp [numB, lowL_length]
  omega
theorem bytes_len (v : S43) : okS v = true → (bytesS v).length ≤ 200000 * cntS v := by
  refine S_ind (P := fun v => okS v = true → (bytesS v).length ≤ 200000 * cntS v) (fun v ih h => ?_) v
  have hl : ∀ l : List S43, (∀ x ∈ l, (bytesS x).length ≤ 200000 * cntS x) → (bytesL l).length ≤ 200000 * cntL l := by
    intro l
    induction l with
    | nil => intro _; simp [bytesL]
    | cons x t iht =>
      intro hx
      have h1 := hx x (by simp)
      have h2 := iht (fun y hy => hx y (by simp [hy]))
      simp only [bytesL, cntL, List.length_append]
      omega
  have h1 := ok_f3 v h
  have h2 := hl v.f3 (fun x hx => ih x hx (h1.2 x hx))
  obtain ⟨f0, f1, f2, f3⟩ := v
  simp only [bytesS, cntS]
  split
  · have := numB_length f1; omega
  · split
    · simp [lowL_length]; have := h1.1; simp at this; omega
    · simp [lowL_length]; simp at h2; omega
theorem deep_le (v : S43) : deepS v ≤ cntS v := by
  refine S_ind (P := fun v => deepS v ≤ cntS v) (fun v ih => ?_) v
  have hl : ∀ l : List S43, (∀ x ∈ l, deepS x ≤ cntS x) → deepL l ≤ cntL l := by
    intro l
    induction l with
    | nil => intro _; simp [deepL]
    | cons x t iht =>
      intro hx
      have h1 := hx x (by simp)
      have h2 := iht (fun y hy => hx y (by simp [hy]))
      simp only [deepL, cntL]
      omega
  have h2 := hl v.f3 ih
  obtain ⟨f0, f1, f2, f3⟩ := v
  simp only [deepS, cntS]
  split
  · simp at h2; omega
  · omega
/-! numbers -/
def plainS (n : Int) : List Int := ((lowS n 8).1.reverse).dropWhile (fun x => x == 0)
theorem strip (m : Nat) : ∀ n : Int, 0 ≤ n → n / 2 ^ (8 * m) = 0 → ((lowL n m).reverse).dropWhile (fun x => x == 0) = (lowL n (digs m n)).reverse ∧ (n > 0 → digs m n ≠ 0) ∧ n / 2 ^ (8 * digs m n) = 0 := by
  induction m with
  | zero => intro n h0 h1; simp at h1; subst h1; exact ⟨rfl, by omega, by simp [digs]⟩
  | succ m ih =>
    intro n h0 h1
    have hq : n / 256 / 2 ^ (8 * m) = 0 := by rw [Int.ediv_ediv_of_nonneg (by decide), ← h1, show (2 : Int) ^ (8 * (m + 1)) = 256 * 2 ^ (8 * m) by rw [show 8 * (m + 1) = 8 * m + 8 by omega, Int.pow_add]; omega]
    obtain ⟨i1, i2, i3⟩ := ih (n / 256) (by omega) hq
    rw [lowL_succ, List.reverse_cons, List.dropWhile_append, i1]
    by_cases hn : n > 0
    · have e : digs (m + 1) n = digs m (n / 256) + 1 := by simp [digs, hn]
      rw [e]
      refine ⟨?_, by omega, ?_⟩
      · rw [lowL_succ, List.reverse_cons]
        by_cases hd : digs m (n / 256) = 0
        · have : ¬ n / 256 > 0 := fun h => i2 h hd
          rw [hd]
          have hne : ¬ n % 256 = 0 := by omega
          simp [lowL, hne]
        · have : ((lowL (n / 256) (digs m (n / 256))).reverse).isEmpty = false := by
            rw [List.isEmpty_eq_false_iff]
            intro h
            have := congrArg List.length h
            simp [lowL_length] at this
            exact hd this
          rw [this]
          rfl
      · rw [show (2 : Int) ^ (8 * (digs m (n / 256) + 1)) = 256 * 2 ^ (8 * digs m (n / 256)) by rw [show 8 * (digs m (n / 256) + 1) = 8 * digs m (n / 256) + 8 by omega, Int.pow_add]; omega, ← Int.ediv_ediv_of_nonneg (by decide)]
        exact i3
    · have h00 : n = 0 := by omega
      subst h00
      have e : digs m (0 / 256) = 0 := by cases m <;> simp [digs]
      rw [e]
      refine ⟨by simp [lowL, digs], by omega, by simp⟩
theorem plain_num (n : Int) (h0 : 0 ≤ n) (h1 : n ≤ 4611686018427387904) : plainS n = (lowL n (digs 8 n)).reverse ∧ lowS n (digs 8 n : Int) = (if n = 0 then ([], 2) else (lowL n (digs 8 n), 0)) := by
  have h8 : n / 2 ^ (8 * 8) = 0 := by rw [show (2 : Int) ^ (8 * 8) = 18446744073709551616 by rfl]; omega
  obtain ⟨a, b, c⟩ := strip 8 n h0 h8
  have e : lowS n 8 = (lowL n 8, 0) := by
    unfold lowS lowBad
    simp [h0, h1] <;> omega
  refine ⟨by unfold plainS; rw [e]; exact a, ?_⟩
  have hle := digs_le 8 n
  unfold lowS lowBad
  by_cases hn : n = 0
  · subst hn
    simp [digs]
  · rw [if_neg hn]
    have := b (by omega)
    rw [Int.toNat_natCast, c]
    have e2 : (decide ((digs 8 n : Int) < 1) || decide ((digs 8 n : Int) > 8) || decide (n < 0) || decide (n > 4611686018427387904) || (decide ((digs 8 n : Int) < 8) && decide ((0 : Int) ≠ 0))) = false := by
      rw [decide_eq_false (show ¬ (digs 8 n : Int) < 1 by omega), decide_eq_false (show ¬ (digs 8 n : Int) > 8 by omega), decide_eq_false (show ¬ n < 0 by omega), decide_eq_false (show ¬ n > 4611686018427387904 by omega)]
      simp
    rw [e2]
    rfl
theorem plain_l0 : ∀ (l : List Int) (k : Nat), l.length < k → codec_plain.l0 k l = some (l.dropWhile (fun x => x == 0)) := by
  intro l
  induction l with
  | nil =>
    intro k hk
    obtain ⟨k, rfl, _⟩ := rounds_ex (m := 0) (by omega : 0 + 1 ≤ k)
    simp [codec_plain.l0]
  | cons x t ih =>
    intro k hk
    obtain ⟨k, rfl, hk'⟩ := rounds_ex (m := t.length + 1) (by simp at hk; omega : t.length + 1 + 1 ≤ k)
    simp only [codec_plain.l0]
    rw [if_pos (by simp <;> omega), if_pos (by simp <;> omega)]
    by_cases h : x = 0
    · subst h
      rw [if_pos (by rfl), if_pos (by simp <;> omega)]
      rw [show List.drop (1 : Int).toNat ((0 : Int) :: t) = t from rfl, ih k (by omega)]
      simp
    · rw [if_neg (by simpa [rd] using h)]
      simp [h]
theorem plain_ev (n : Int) (k : Nat) (hk : 20 ≤ k) : codec_plain.f k n = some (plainS n) := by
  unfold codec_plain.f
  rw [word_put n 8 k (by omega)]
  simp only [Option.bind_some]
  have := lowS_length n 8
  rw [plain_l0 _ k (by simp <;> omega)]
  rfl
theorem plainS_len (n : Int) : (plainS n).length ≤ 8 := by
  have := lowS_length n 8
  have h2 := (List.dropWhile_sublist (l := (lowS n 8).1.reverse) (fun x => x == 0)).length_le
  unfold plainS
  simp at h2 ⊢
  omega
theorem low_ok (n : Nat) (s : Nat) (h1 : 1 ≤ s) (h2 : s ≤ 8) (h3 : (n : Int) / 2 ^ (8 * s) = 0) (h4 : n ≤ 4611686018427387904) : lowS (n : Int) (s : Int) = (lowL n s, 0) := by
  unfold lowS lowBad
  rw [Int.toNat_natCast, h3]
  simp
  omega

set_option maxHeartbeats 4000000
/-! ### plain laws: the program's own coding -/
theorem num_le (n : Nat) (s : Nat) (hs : n < 2 ^ (8 * s)) : (n : Int) / 2 ^ (8 * s) = 0 := by
  refine Int.ediv_eq_zero_of_lt (by omega) ?_
  exact_mod_cast hs
theorem Ev.fin {α : Type} {g : Nat → Option α} {r : α} (K : Nat) (h : ∀ k, K ≤ k → g k = some r) : Ev g r := ⟨K, h⟩
theorem put_ev_n (n s : Int) : Ev (fun k => word_Put.f k n s) ((lowS n s).1.reverse, (lowS n s).2) := Ev.fin 12 (fun k hk => word_put n s k hk)
theorem ixS (l : List S43) (i : Nat) (h : i < l.length) : l.drop i = rd_T43 l (i : Int) :: l.drop (i + 1) := getD_drop l z43 i h
theorem memS (l : List S43) (i : Nat) (h : i < l.length) : rd_T43 l (i : Int) ∈ l := by
  have := List.mem_of_mem_drop (i := i) (l := l) (a := rd_T43 l (i : Int)) (by rw [ixS l i h]; exact List.mem_cons_self)
  exact this
theorem bytesL_small (l : List S43) (h : ∀ x ∈ l, okS x = true) : (bytesL l).length ≤ 200000 * cntL l := by
  induction l with
  | nil => simp [bytesL]
  | cons x t iht =>
    have h1 := bytes_len x (h x (by simp))
    have h2 := iht (fun y hy => h y (by simp [hy]))
    simp only [bytesL, cntL, List.length_append]
    omega
/-- codec.put -/
theorem put_ev (v : S43) : Small v → pureS v = true → ∀ out : List Int, out.length + (bytesS v).length ≤ 100000000000 → Ev (fun k => codec_put.f k out v.f0 v.f1 v.f2 v.f3) (out ++ bytesS v) := by
  refine S_ind (P := fun v => Small v → pureS v = true → ∀ out : List Int, out.length + (bytesS v).length ≤ 100000000000 → Ev (fun k => codec_put.f k out v.f0 v.f1 v.f2 v.f3) (out ++ bytesS v)) (fun v ih hs hp out ho => ?_) v
  have hl2 := hs.len2
  have hl3 := hs.len3
  have hsub := hs.sub
  obtain ⟨f0, f1, f2, f3⟩ := v
  simp only [pureS] at hp
  simp only [bytesS] at ho ⊢
  simp only at hl2 hl3 ih hsub
  by_cases h1 : f0 = 1
  · subst h1
    simp only [if_true, Bool.and_eq_true, decide_eq_true_eq] at hp ho ⊢
    obtain ⟨⟨⟨p1, p2⟩, _⟩, _⟩ := hp
    refine Ev.step (f := fun k => (codec_plain.f k f1).bind fun b => if out.length + 2 + b.length ≤ 140737488355328 then some (out ++ [1, (b.length : Int) % 256] ++ b) else none) (fun k => by simp only [codec_put.f, if_true]) ?_
    refine Ev.bind (a := plainS f1) (Ev.fin 20 (fun k hk => plain_ev f1 k hk)) ?_
    have := plainS_len f1
    simp only [if_pos (show out.length + 2 + (plainS f1).length ≤ 140737488355328 by omega)]
    have e : out ++ [1, ((plainS f1).length : Int) % 256] ++ plainS f1 = out ++ numB f1 := by
      rw [(plain_num f1 p1 p2).1, List.append_assoc]
      unfold numB
      have hd := digs_le 8 f1
      rw [List.length_reverse, lowL_length, show ((digs 8 f1 : Nat) : Int) % 256 = (digs 8 f1 : Int) by omega]
      rfl
    rw [e]
    exact Ev.now _
  rw [if_neg h1] at hp ho ⊢
  by_cases h2 : f0 = 2
  · subst h2
    simp only [if_true] at ho ⊢
    refine Ev.step (f := fun k => (word_Put.f k (f2.length : Int) 3).bind fun n => if out.length + 1 + n.1.length + f2.length ≤ 140737488355328 then some (out ++ [2] ++ n.1 ++ f2) else none) (fun k => by simp only [codec_put.f, if_true, show ¬ (2 : Int) = 1 by decide, if_false]) ?_
    refine Ev.bind (put_ev_n _ _) ?_
    rw [show (3 : Int) = ((3 : Nat) : Int) from rfl, low_ok f2.length 3 (by omega) (by omega) (num_le _ _ (by omega)) (by omega)]
    have hq : out.length + 1 + ((lowL (f2.length : Int) 3).reverse).length + f2.length ≤ 140737488355328 := by rw [List.length_reverse, lowL_length]; omega
    simp only [if_pos hq]
    rw [show out ++ [2] ++ (lowL (f2.length : Int) 3).reverse ++ f2 = out ++ ([2] ++ (lowL (f2.length : Int) 3).reverse ++ f2) by simp]
    exact Ev.now _
  · rw [if_neg h2] at hp ho ⊢
    by_cases h3 : f0 = 3
    · subst h3
      simp only [if_true, Bool.and_eq_true, decide_eq_true_eq] at hp
      obtain ⟨⟨⟨_, _⟩, p3⟩, p4⟩ := hp
      refine Ev.step (f := fun k => (word_Put.f k (f3.length : Int) 2).bind fun n => if out.length + 1 + n.1.length ≤ 140737488355328 then f3.foldlM (fun o x => codec_put.f k o x.f0 x.f1 x.f2 x.f3) (out ++ [3] ++ n.1) else none) (fun k => by simp only [codec_put.f, show ¬ (3 : Int) = 1 by decide, show ¬ (3 : Int) = 2 by decide, if_false]) ?_
      refine Ev.bind (put_ev_n _ _) ?_
      rw [show (2 : Int) = ((2 : Nat) : Int) from rfl, low_ok f3.length 2 (by omega) (by omega) (num_le _ _ (by omega)) (by omega)]
      have hlen : ((lowL (f3.length : Int) 2).reverse).length = 2 := by rw [List.length_reverse, lowL_length]
      have hq : out.length + 1 + ((lowL (f3.length : Int) 2).reverse).length ≤ 140737488355328 := by omega
      simp only [if_pos hq]
      have ho' : (out ++ [3] ++ (lowL (f3.length : Int) 2).reverse).length + (bytesL f3).length ≤ 100000000000 := by
        simp only [List.length_append, List.length_singleton] at ho ⊢
        omega
      rw [show out ++ ([3] ++ (lowL (f3.length : Int) 2).reverse ++ bytesL f3) = (out ++ [3] ++ (lowL (f3.length : Int) 2).reverse) ++ bytesL f3 by simp]
      generalize out ++ [3] ++ (lowL (f3.length : Int) 2).reverse = o at ho' ⊢
      clear ho hq hl3 hs p3 hlen
      induction f3 generalizing o with
      | nil => simp only [List.foldlM_nil, bytesL, List.append_nil]; exact Ev.now _
      | cons x t iht =>
        simp only [pureL, Bool.and_eq_true] at p4
        simp only [bytesL, List.length_append] at ho'
        simp only [List.foldlM_cons, bytesL]
        refine Ev.bind (ih x (by simp) (hsub x (by simp)) p4.1 o (by omega)) ?_
        rw [← List.append_assoc]
        exact iht (fun y hy => ih y (by simp [hy])) (fun y hy => hsub y (by simp [hy])) p4.2 _ (by simp only [List.length_append]; omega)
    · rw [if_neg h3] at hp
      cases hp
/-! codec.measure -/
def goodS (v : S43) (deep : Int) : Prop := pureS v = true ∧ (deepS v : Int) ≤ deep
structure Meas (v : S43) (room : Int) (deep : Int) (n : Int) (ok : Bool) : Prop where
  yes : ok = true → goodS v deep ∧ n = (bytesS v).length
  no : ok = false → n = 0
  fits : goodS v deep → ((bytesS v).length : Int) ≤ room → ok = true
theorem pure_ev (v : S43) (h2 : v.f2.length ≤ 100000) : codec_pure.f v.f0 v.f1 v.f2 v.f3 = some (if v.f0 = 1 then decide (v.f1 ≥ 0) && decide (v.f1 ≤ 4611686018427387904) && v.f2.isEmpty && v.f3.isEmpty else if v.f0 = 2 then decide (v.f1 = 0) && v.f3.isEmpty else if v.f0 = 3 then decide (v.f1 = 0) && v.f2.isEmpty && decide (v.f3.length ≤ 4096) else false) := by
  have e2 : ∀ l : List Int, ((l.length : Int) == 0) = l.isEmpty := by intro l; cases l <;> simp <;> omega
  have e3 : ∀ l : List S43, ((l.length : Int) == 0) = l.isEmpty := by intro l; cases l <;> simp <;> omega
  have d2 : ∀ l : List Int, ((l.length : Int) = 0) ↔ l.isEmpty = true := by intro l; rw [← e2]; simp
  unfold codec_pure.f
  by_cases h1 : v.f0 = 1
  · rw [if_pos h1, if_pos h1]
    by_cases a1 : v.f1 ≥ 0
    · rw [if_pos a1]
      by_cases a2 : v.f1 ≤ 4611686018427387904
      · rw [if_pos a2]
        by_cases a3 : (v.f2.length : Int) = 0
        · rw [if_pos a3, e3, (d2 v.f2).1 a3]; simp [a1, a2]
        · rw [if_neg a3, show v.f2.isEmpty = false by cases hh : v.f2.isEmpty; rfl; exact absurd ((d2 v.f2).2 hh) a3]; simp
      · rw [if_neg a2]; simp [a2]
    · rw [if_neg a1]; simp [a1]
  rw [if_neg h1, if_neg h1]
  by_cases h2' : v.f0 = 2
  · rw [if_pos h2', if_pos h2']
    by_cases a1 : v.f1 = 0
    · rw [if_pos a1, if_pos (by omega), e3]; simp [a1]
    · rw [if_neg a1]; simp [a1]
  rw [if_neg h2', if_neg h2']
  by_cases h3 : v.f0 = 3
  · rw [if_pos h3, if_pos h3]
    by_cases a1 : v.f1 = 0
    · rw [if_pos a1]
      by_cases a3 : (v.f2.length : Int) = 0
      · rw [if_pos a3, (d2 v.f2).1 a3]; simp [a1]; omega
      · rw [if_neg a3, show v.f2.isEmpty = false by cases hh : v.f2.isEmpty; rfl; exact absurd ((d2 v.f2).2 hh) a3]; simp
    · rw [if_neg a1]; simp [a1]
  · rw [if_neg h3, if_neg h3]
theorem pure_v (v : S43) (h2 : v.f2.length ≤ 100000) : codec_pure.f v.f0 v.f1 v.f2 v.f3 = some true ∧ (v.f0 = 3 → (pureS v = pureL v.f3)) ∧ (v.f0 ≠ 3 → pureS v = true) ∨ codec_pure.f v.f0 v.f1 v.f2 v.f3 = some false ∧ pureS v = false := by
  rw [pure_ev v h2]
  obtain ⟨f0, f1, f2, f3⟩ := v
  simp only [pureS]
  by_cases h1 : f0 = 1
  · subst h1
    simp only [if_true]
    cases hb : (decide (f1 ≥ 0) && decide (f1 ≤ 4611686018427387904) && f2.isEmpty && f3.isEmpty) <;> simp
  rw [if_neg h1, if_neg h1]
  by_cases h2 : f0 = 2
  · subst h2
    simp only [if_true]
    cases hb : (decide (f1 = 0) && f3.isEmpty) <;> simp
  rw [if_neg h2, if_neg h2]
  by_cases h3 : f0 = 3
  · subst h3
    simp only [if_true]
    cases hb : (decide (f1 = 0) && f2.isEmpty && decide (f3.length ≤ 4096)) <;> simp
  · rw [if_neg h3, if_neg h3]
    simp
theorem deepS_le (v : S43) (d : Int) : (deepS v : Int) ≤ d ↔ 0 ≤ d ∧ (v.f0 = 3 → 1 ≤ d ∧ (deepL v.f3 : Int) ≤ d - 1) := by
  obtain ⟨f0, f1, f2, f3⟩ := v
  simp only [deepS]
  by_cases h3 : f0 = 3
  · simp only [h3, if_true, forall_const]; omega
  · simp only [h3, if_false, false_implies, and_true]; omega
theorem num_len (f1 : Int) (h0 : 0 ≤ f1) (h1 : f1 ≤ 4611686018427387904) : (numB f1).length = 2 + (plainS f1).length := by
  rw [(plain_num f1 h0 h1).1]; simp [numB]; omega
theorem goodL_all (l : List S43) (d : Int) (h0 : 0 ≤ d) : (pureL l = true ∧ (deepL l : Int) ≤ d) ↔ ∀ x ∈ l, goodS x d := by
  induction l with
  | nil => simp [pureL, deepL, h0]
  | cons x t ih =>
    rw [List.forall_mem_cons, ← ih]
    simp only [pureL, deepL, Bool.and_eq_true, goodS]
    constructor
    · rintro ⟨⟨a, b⟩, c⟩; exact ⟨⟨a, by omega⟩, b, by omega⟩
    · rintro ⟨⟨a, b⟩, c, e⟩; exact ⟨⟨a, c⟩, by omega⟩
theorem measL (room d : Int) (l : List S43) (hl : l.length ≤ 100000) (hb : (bytesL l).length ≤ 20000000000) (hr0 : room ≤ 1048576) (hr : 0 ≤ room) (hd0 : 0 ≤ d) (hd1 : d ≤ 16)
    (ih : ∀ x ∈ l, ∀ r : Int, r ≤ 1048576 → -30000000000 ≤ r → ∃ n ok, Ev (fun k => codec_measure.f k x.f0 x.f1 x.f2 x.f3 r (d - 1)) (n, ok) ∧ Meas x r (d - 1) n ok) :
    ∀ (j i : Nat) (s : Int), i + j = l.length → 3 ≤ s → s + (bytesL (l.drop i)).length ≤ 20000000003 → ∃ n ok, Ev (fun k => codec_measure.l0 k room d s l (l.length : Int) i) (n, ok) ∧
      (ok = true → (∀ x ∈ l.drop i, goodS x (d - 1)) ∧ n = s + (bytesL (l.drop i)).length) ∧ (ok = false → n = 0) ∧ ((∀ x ∈ l.drop i, goodS x (d - 1)) → s + (bytesL (l.drop i)).length ≤ room → ok = true) := by
  intro j
  induction j with
  | zero =>
    intro i s hi h3 hs
    refine ⟨s, true, Ev.some_ (fun k => by simp only [codec_measure.l0]; rw [if_neg (by omega)]), ?_⟩
    rw [drop_end l i (by omega)]
    simp [bytesL]
  | succ j ihj =>
    intro i s hi h3 hs
    have hlt : i < l.length := by omega
    rw [ixS l i hlt] at hs ⊢
    simp only [bytesL, List.length_append] at hs ⊢
    have hm := memS l i hlt
    obtain ⟨n1, ok1, e1, m1⟩ := ih (rd_T43 l (i : Int)) hm (room - s) (by omega) (by omega)
    have ew : wrap64 (room - s) = room - s := w64i (by omega) (by omega)
    have ed : wrap64 (d - 1) = d - 1 := w64i (by omega) (by omega)
    have ei : wrap64 ((i : Int) + 1) = ((i + 1 : Nat) : Int) := ix_next i (by omega)
    have step : ∀ k, codec_measure.l0 (k + 1) room d s l (l.length : Int) i = (codec_measure.f k (rd_T43 l (i : Int)).f0 (rd_T43 l (i : Int)).f1 (rd_T43 l (i : Int)).f2 (rd_T43 l (i : Int)).f3 (room - s) (d - 1)).bind fun bt => if bt.2 = true then codec_measure.l0 k room d (wrap64 (s + bt.1)) l (l.length : Int) ((i + 1 : Nat) : Int) else some (0, false) := by
      intro k
      simp only [codec_measure.l0]
      simp only [if_pos (Int.ofNat_lt.2 hlt), if_pos (Int.natCast_nonneg i)]
      rw [ew, ed, ei]
    cases ok1 with
    | false =>
      refine ⟨0, false, Ev.step step (Ev.bind e1 (Ev.now (0, false))), fun h => (by cases h), fun _ => rfl, fun hg hle => ?_⟩
      have := m1.fits (hg _ (by simp)) (by omega)
      cases this
    | true =>
      obtain ⟨g1, rfl⟩ := m1.yes rfl
      have es : wrap64 (s + (bytesS (rd_T43 l (i : Int))).length) = s + (bytesS (rd_T43 l (i : Int))).length := w64i (by omega) (by omega)
      obtain ⟨n, ok, e2, y2, n2, f2⟩ := ihj (i + 1) (s + (bytesS (rd_T43 l (i : Int))).length) (by omega) (by omega) (by omega)
      refine ⟨n, ok, Ev.step step (Ev.bind e1 ?_), fun h => ⟨?_, ?_⟩, n2, fun hg hle => f2 (fun x hx => hg x (by simp [hx])) (by omega)⟩
      · simp only [if_true, es]
        exact e2
      · intro x hx
        rcases List.mem_cons.1 hx with rfl | hx
        · exact g1
        · exact (y2 h).1 x hx
      · rw [(y2 h).2]; omega
theorem meas_ev (v : S43) : Small v → ∀ (room d : Int), room ≤ 1048576 → -30000000000 ≤ room → -1 ≤ d → d ≤ 16 → ∃ n ok, Ev (fun k => codec_measure.f k v.f0 v.f1 v.f2 v.f3 room d) (n, ok) ∧ Meas v room d n ok := by
  refine S_ind (P := fun v => Small v → ∀ (room d : Int), room ≤ 1048576 → -30000000000 ≤ room → -1 ≤ d → d ≤ 16 → ∃ n ok, Ev (fun k => codec_measure.f k v.f0 v.f1 v.f2 v.f3 room d) (n, ok) ∧ Meas v room d n ok) (fun v ih hs room d hr1 hr0 hd0 hd1 => ?_) v
  have hbl := bytes_len v hs.ok
  have hcnt := hs.cnt
  have bad : ∀ b : Bool, codec_pure.f v.f0 v.f1 v.f2 v.f3 = some true → (if room < 0 then true else decide (d < 0)) = true → ∃ n ok, Ev (fun k => codec_measure.f k v.f0 v.f1 v.f2 v.f3 room d) (n, ok) ∧ Meas v room d n ok := by
    intro _ hp hb
    refine ⟨0, false, Ev.step (f := fun k => codec_measure.j0 k room d true v.f0 v.f1 v.f2 v.f3) (fun k => ?_) (Ev.some_ (fun k => by simp only [codec_measure.j0, if_true])), fun h => (by cases h), fun _ => rfl, fun hg hle => ?_⟩
    · simp only [codec_measure.f, hp, Option.bind_some, if_true]
      by_cases hr : room < 0
      · rw [if_pos hr]
      · rw [if_neg hr] at hb ⊢; rw [hb]
    · by_cases hr : room < 0
      · omega
      · rw [if_neg hr] at hb
        have hb := of_decide_eq_true hb
        have := hg.2
        omega
  rcases pure_v v hs.len2 with ⟨hp, hp3, hpn⟩ | ⟨hp, hpS⟩
  · by_cases hb : (if room < 0 then true else decide (d < 0)) = true
    · exact bad true hp hb
    have hr : ¬ room < 0 := fun h => hb (by rw [if_pos h])
    have hd : ¬ d < 0 := fun h => hb (by rw [if_neg hr]; exact decide_eq_true h)
    have st : ∀ (g : Nat → Option (Int × Bool)), (∀ k, codec_measure.j0 (k + 1) room d false v.f0 v.f1 v.f2 v.f3 = g k) → ∀ r, Ev g r → Ev (fun k => codec_measure.f k v.f0 v.f1 v.f2 v.f3 room d) r := by
      intro g hg r e
      refine Ev.step (f := fun k => codec_measure.j0 k room d false v.f0 v.f1 v.f2 v.f3) (fun k => ?_) (Ev.step (f := g) hg e)
      simp only [codec_measure.f, hp, Option.bind_some, if_true]
      rw [if_neg hr, decide_eq_false hd]
    obtain ⟨f0, f1, f2, f3⟩ := v
    simp only at hp hp3 hpn st ih
    by_cases h1 : f0 = 1
    · subst h1
      have hpS := hpn (by decide)
      have hpS2 := hpS
      simp only [pureS, if_true, Bool.and_eq_true, decide_eq_true_eq] at hpS2
      have hn := num_len f1 hpS2.1.1.1 hpS2.1.1.2
      have hl := plainS_len f1
      refine ⟨2 + (plainS f1).length, true, st (fun k => (codec_plain.f k f1).bind fun t => some (wrap64 (2 + (t.length : Int)), true)) (fun k => by simp [codec_measure.j0]) _ ?_, fun _ => ⟨⟨hpS, (deepS_le _ _).2 ⟨by omega, fun h => by cases h⟩⟩, ?_⟩, fun h => (by cases h), fun _ _ => rfl⟩
      · refine Ev.bind (a := plainS f1) (Ev.fin 20 (fun k hk => plain_ev f1 k hk)) ?_
        rw [w64i (by omega) (by omega)]
        exact Ev.now _
      · simp only [bytesS, if_true]
        rw [hn]
        omega
    by_cases h2 : f0 = 2
    · subst h2
      have hpS := hpn (by decide)
      have hl2 := hs.len2
      simp only at hl2
      refine ⟨4 + f2.length, true, st (fun k => some (4 + f2.length, true)) (fun k => by simp only [codec_measure.j0]; simp; rw [w64i (by omega) (by omega)]) _ (Ev.now _), fun _ => ⟨⟨hpS, (deepS_le _ _).2 ⟨by omega, fun h => by cases h⟩⟩, ?_⟩, fun h => (by cases h), fun _ _ => rfl⟩
      simp [bytesS, lowL_length]
      omega
    by_cases h3 : f0 = 3
    · subst h3
      have e3 := hp3 rfl
      by_cases hd0 : d = 0
      · subst hd0
        refine ⟨0, false, st (fun k => some (0, false)) (fun k => by simp [codec_measure.j0]) _ (Ev.now _), fun h => (by cases h), fun _ => rfl, fun hg hle => ?_⟩
        have := ((deepS_le _ _).1 hg.2).2 rfl
        omega
      · have hsub := hs.sub
        have hl3 := hs.len3
        simp only at hsub hl3
        have hb3 : (bytesL f3).length ≤ 20000000000 := by
          simp only [bytesS] at hbl
          simp at hbl
          omega
        obtain ⟨n, ok, e, y, no, fi⟩ := measL room d f3 hl3 hb3 hr1 (by omega) (by omega) hd1 (fun x hx r h1 h2 => ih x hx (hsub x hx) r (d - 1) h1 h2 (by omega) (by omega)) f3.length 0 3 (by omega) (by omega) (by simp; omega)
        simp only [List.drop_zero] at y fi
        have hlen : (bytesS (⟨3, f1, f2, f3⟩ : S43)).length = 3 + (bytesL f3).length := by simp [bytesS, lowL_length]; omega
        have hgood : goodS (⟨3, f1, f2, f3⟩ : S43) d ↔ ∀ x ∈ f3, goodS x (d - 1) := by
          rw [← goodL_all f3 (d - 1) (by omega)]
          unfold goodS
          rw [e3, deepS_le]
          simp only [forall_const]
          constructor
          · rintro ⟨a, _, _, b⟩; exact ⟨a, b⟩
          · rintro ⟨a, b⟩; exact ⟨a, by omega, by omega, b⟩
        refine ⟨n, ok, st (fun k => codec_measure.l0 k room d 3 f3 (f3.length : Int) 0) (fun k => by simp [codec_measure.j0, hd0]) _ e, fun h => ⟨hgood.2 (y h).1, ?_⟩, no, fun hg hle => fi (hgood.1 hg) (by rw [hlen] at hle; omega)⟩
        rw [hlen, (y h).2]
        omega
    · exfalso
      have := hpn h3
      simp [pureS, h1, h2, h3] at this
  · refine ⟨0, false, Ev.step (f := fun k => codec_measure.j0 k room d true v.f0 v.f1 v.f2 v.f3) (fun k => by simp [codec_measure.f, hp]) (Ev.some_ (fun k => by simp only [codec_measure.j0, if_true])), fun h => (by cases h), fun _ => rfl, fun hg hle => ?_⟩
    have := hg.1
    rw [hpS] at this
    cases this

/-! ### plain laws: are two lists one? -/
theorem rd_get (l : List Int) (i : Nat) (h : i < l.length) : rd l (i : Int) = l[i] := by
  unfold rd
  simp [List.getD, List.getElem?_eq_getElem h]
theorem same_l0 (a b : List Int) (hl : a.length = b.length) (hm : a.length ≤ 4611686018427387904) : ∀ (d k i : Nat), i + d = a.length → d < k →
    bastilleref01_Same.l0 k a b (i : Int) = some (decide (a.drop i = b.drop i)) := by
  intro d
  induction d with
  | zero =>
    intro k i h1 hk
    obtain ⟨k, rfl, _⟩ := rounds_ex (m := 0) (by omega : 0 + 1 ≤ k)
    simp only [bastilleref01_Same.l0]
    rw [if_neg (by omega), List.drop_of_length_le (by omega), List.drop_of_length_le (by omega)]
    simp
  | succ d ih =>
    intro k i h1 hk
    obtain ⟨k, rfl, hk'⟩ := rounds_ex (m := d + 1) (by omega : d + 1 + 1 ≤ k)
    simp only [bastilleref01_Same.l0]
    rw [if_pos (by omega), if_pos (by omega), if_pos (by omega), rd_get a i (by omega), rd_get b i (by omega), w64i (by omega) (by omega)]
    rw [List.drop_eq_getElem_cons (show i < a.length by omega), List.drop_eq_getElem_cons (show i < b.length by omega)]
    have := ih k (i + 1) (by omega) (by omega)
    rw [show (((i + 1 : Nat)) : Int) = (i : Int) + 1 by omega] at this
    by_cases h : a[i] = b[i]
    · rw [if_pos h, this]
      congr 1
      exact decide_eq_decide.mpr (by rw [h]; exact ⟨fun e => by rw [e], fun e => (List.cons.inj e).2⟩)
    · rw [if_neg h]
      exact congrArg some (decide_eq_false (fun e => h (List.cons.inj e).1)).symm
theorem same_ev (a b : List Int) (hm : a.length ≤ 4611686018427387904) (k : Nat) (hk : a.length + 1 ≤ k) : bastilleref01_Same.f k a b = some (decide (a = b)) := by
  unfold bastilleref01_Same.f
  by_cases h : a.length = b.length
  · rw [if_pos (by omega)]
    have := same_l0 a b h hm a.length k 0 (by omega) (by omega)
    simpa using this
  · rw [if_neg (by omega)]
    simp
    intro e
    exact h (by rw [e])
theorem same_refl (a : List Int) (hm : a.length ≤ 4611686018427387904) (k : Nat) (hk : a.length + 1 ≤ k) : bastilleref01_Same.f k a a = some true := by
  rw [same_ev a a hm k hk]; simp

/-! the bound on what is tried -/
def okG (l : List S43) : Prop := l.length ≤ maxLen ∧ ∀ y ∈ l, g43 y
theorem g_f3 {x : S43} (h : g43 x) : okG x.f3 := by cases h; rename_i a b c d e f; exact ⟨e, f⟩
theorem partsL (d : Nat) (hd : d ≤ 30) (l : List S43) (hl : okG l) (ih : ∀ x ∈ l, ∀ n : Int, 0 ≤ n → n ≤ 200 → ∃ r : Int, Ev (fun k => bastillelaw02_parts.f k x.f0 x.f1 x.f2 x.f3 n (d : Int)) r ∧ -1 ≤ r ∧ r ≤ n ∧ (0 ≤ r → r + cntS x ≤ n ∧ okS x = true)) :
    ∀ (j i : Nat) (n : Int), i + j = l.length → -1 ≤ n → n ≤ 200 → ∃ r : Int, Ev (fun k => bastillelaw02_parts.l0 k n ((d + 1 : Nat) : Int) l (l.length : Int) (i : Int)) r ∧ -1 ≤ r ∧ r ≤ n ∧ (0 ≤ r → r + cntL (l.drop i) ≤ n ∧ okL (l.drop i) = true) := by
  have hm : l.length ≤ 9223372036854775807 := hl.1
  intro j
  induction j with
  | zero =>
    intro i n hi h0 h1
    refine ⟨n, Ev.some_ (fun k => ?_), h0, by omega, ?_⟩
    · simp only [bastillelaw02_parts.l0]
      rw [if_neg (by omega)]
    · rw [drop_end l i (by omega)]
      simp [cntL, okL]
  | succ j ihj =>
    intro i n hi h0 h1
    have hlt : i < l.length := by omega
    rw [ixS l i hlt]
    have e0 : ∀ k, bastillelaw02_parts.l0 (k + 1) n ((d + 1 : Nat) : Int) l (l.length : Int) (i : Int) = if n < 0 then some (-1) else (bastillelaw02_parts.f k (rd_T43 l (i : Int)).f0 (rd_T43 l (i : Int)).f1 (rd_T43 l (i : Int)).f2 (rd_T43 l (i : Int)).f3 n (d : Int)).bind fun t => bastillelaw02_parts.l0 k t ((d + 1 : Nat) : Int) l (l.length : Int) ((i + 1 : Nat) : Int) := by
      intro k
      simp only [bastillelaw02_parts.l0]
      simp only [if_pos (Int.ofNat_lt.2 hlt), if_pos (Int.natCast_nonneg i)]
      rw [ix_next i (by omega), show wrap64 (((d + 1 : Nat) : Int) - 1) = (d : Int) by rw [w64i (by omega) (by omega)]; omega]
    by_cases hn : n < 0
    · exact ⟨-1, Ev.some_ (fun k => by rw [e0, if_pos hn]), by omega, by omega, fun h => by omega⟩
    · obtain ⟨t, et, t0, t1, t2⟩ := ih _ (memS l i hlt) n (by omega) h1
      obtain ⟨r, er, r0, r1, r2⟩ := ihj (i + 1) t (by omega) t0 (by omega)
      refine ⟨r, Ev.step (f := fun k => (bastillelaw02_parts.f k (rd_T43 l (i : Int)).f0 (rd_T43 l (i : Int)).f1 (rd_T43 l (i : Int)).f2 (rd_T43 l (i : Int)).f3 n (d : Int)).bind fun t => bastillelaw02_parts.l0 k t ((d + 1 : Nat) : Int) l (l.length : Int) ((i + 1 : Nat) : Int)) (fun k => by rw [e0, if_neg hn]) (Ev.bind et er), r0, by omega, fun h => ?_⟩
      obtain ⟨a1, a2⟩ := r2 h
      obtain ⟨b1, b2⟩ := t2 (by omega)
      simp only [cntL, okL, a2, b2, Bool.and_true]
      exact ⟨by omega, trivial⟩
theorem parts_ev : ∀ (d : Nat), d ≤ 30 → ∀ (v : S43), okG v.f3 → ∀ n : Int, 0 ≤ n → n ≤ 200 → ∃ r : Int, Ev (fun k => bastillelaw02_parts.f k v.f0 v.f1 v.f2 v.f3 n (d : Int)) r ∧ -1 ≤ r ∧ r ≤ n ∧ (0 ≤ r → r + cntS v ≤ n ∧ okS v = true) := by
  intro d
  induction d with
  | zero =>
    intro _ v hv n h0 h1
    refine ⟨-1, Ev.step (f := fun k => bastillelaw02_parts.j0 k (wrap64 (n - 1)) ((0 : Nat) : Int) true v.f0 v.f1 v.f2 v.f3) (fun k => by simp [bastillelaw02_parts.f]) (Ev.some_ (fun k => by simp [bastillelaw02_parts.j0])), by omega, by omega, fun h => by omega⟩
  | succ d ih =>
    intro hd v hv n h0 h1
    have e0 : ∀ k, bastillelaw02_parts.f (k + 1) v.f0 v.f1 v.f2 v.f3 n ((d + 1 : Nat) : Int) = bastillelaw02_parts.j0 k (n - 1) ((d + 1 : Nat) : Int) (decide ((v.f2.length : Int) > 2000)) v.f0 v.f1 v.f2 v.f3 := by
      intro k
      simp only [bastillelaw02_parts.f]
      rw [if_neg (by omega), w64i (by omega) (by omega)]
    by_cases hb : (v.f2.length : Int) > 2000
    · refine ⟨-1, Ev.step e0 (Ev.some_ (fun k => by rw [decide_eq_true hb]; simp [bastillelaw02_parts.j0])), by omega, by omega, fun h => by omega⟩
    · obtain ⟨r, er, r0, r1, r2⟩ := partsL d (by omega) v.f3 hv (fun x hx => ih (by omega) x (g_f3 (hv.2 x hx))) v.f3.length 0 (n - 1) (by omega) (by omega) (by omega)
      rw [List.drop_zero] at r2
      refine ⟨r, Ev.step e0 (Ev.step (f := fun k => bastillelaw02_parts.l0 k (n - 1) ((d + 1 : Nat) : Int) v.f3 (v.f3.length : Int) ((0 : Nat) : Int)) (fun k => by rw [decide_eq_false hb]; simp [bastillelaw02_parts.j0]) er), r0, by omega, fun h => ?_⟩
      obtain ⟨a1, a2⟩ := r2 h
      have := cnt_f3 v
      refine ⟨by omega, ?_⟩
      obtain ⟨f0, f1, f2, f3⟩ := v
      simp only at a2 hb
      simp only [okS, a2, Bool.and_true, decide_eq_true_eq]
      omega
theorem few_ev (v : S43) (hv : okG v.f3) : ∃ b, Ev (fun k => bastillelaw02_Few.f k v.f0 v.f1 v.f2 v.f3) b ∧ (b = true → Small v) := by
  obtain ⟨r, er, r0, r1, r2⟩ := parts_ev 30 (by omega) v hv 200 (by omega) (by omega)
  refine ⟨decide (r ≥ 0), ?_, fun h => ?_⟩
  · unfold bastillelaw02_Few.f
    exact Ev.bind er (Ev.now _)
  · obtain ⟨a, b⟩ := r2 (of_decide_eq_true h)
    exact ⟨by omega, b⟩
theorem awake_ev : Ev (fun k => bastillelaw02_awake.f k) true := Ev.of (fun k => bastillelaw02_awake.mono k) (k := 30) (by decide +kernel)

/-! ### plain laws: bytes as numbers -/
def ByteOk (b : List Int) : Prop := ∀ x ∈ b, 0 ≤ x ∧ x ≤ 255
theorem byteOk_of {b : List Int} (h : ∀ x ∈ b, (Lit.int .u8 x).wf = true) : ByteOk b := by
  intro x hx
  have := h x hx
  simp [Lit.wf, IntKind.min, IntKind.max, IntKind.signed, IntKind.bits] at this
  omega
def numA (acc : Int) (b : List Int) : Int := b.foldl (fun x c => 256 * x + c) acc
def numL (b : List Int) : Int := numA 0 b
theorem numA_ge (b : List Int) : ∀ acc, 0 ≤ acc → ByteOk b → acc ≤ numA acc b := by
  induction b with
  | nil => intro acc _ _; exact Int.le_refl _
  | cons c t ih =>
    intro acc h0 hb
    have hc := hb c (by simp)
    have := ih (256 * acc + c) (by omega) (fun x hx => hb x (by simp [hx]))
    show acc ≤ numA (256 * acc + c) t
    omega
def getS (b : List Int) : Int × Int := if b.length = 0 then (0, 10) else if b.length > 8 then (0, 2) else if numL b > 4611686018427387904 then (0, 11) else (numL b, 0)
theorem pow7 (i : Nat) (h : i ≤ 7) : (256 : Int) ^ i ≤ 72057594037927936 := by
  obtain rfl | rfl | rfl | rfl | rfl | rfl | rfl | rfl : i = 0 ∨ i = 1 ∨ i = 2 ∨ i = 3 ∨ i = 4 ∨ i = 5 ∨ i = 6 ∨ i = 7 := by omega
  all_goals decide
theorem or_byte (a c : Int) (h0 : 0 ≤ a) (h1 : a ≤ 72057594037927935) (h2 : 0 ≤ c) (h3 : c ≤ 255) : Go.bits .or .u64 (IntKind.u64.wrap (a * 256)) (IntKind.u64.wrap c) = 256 * a + c := by
  obtain ⟨a, rfl⟩ := Int.eq_ofNat_of_zero_le h0
  obtain ⟨c, rfl⟩ := Int.eq_ofNat_of_zero_le h2
  rw [u64i (by omega) (by omega), u64i (by omega) (by omega)]
  have e : ((a : Int) * 256) = ((a * 256 : Nat) : Int) := by omega
  rw [e]
  refine (u64_or_nat (a * 256) c (by omega) (by omega)).trans ?_
  have := Nat.two_pow_add_eq_or_of_lt (i := 8) (b := c) (by omega) a
  rw [show a * 256 = 2 ^ 8 * a by omega, ← this]
  omega
theorem byteOk_reverse {b : List Int} (h : ByteOk b) : ByteOk b.reverse := fun x hx => h x (List.mem_reverse.1 hx)

/-! ### are two trees one? -/
mutual
def bokS : S43 → Prop
  | ⟨_, _, f2, f3⟩ => ByteOk f2 ∧ bokL f3
def bokL : List S43 → Prop
  | [] => True
  | x :: t => bokS x ∧ bokL t
end
theorem bokL_all (l : List S43) : bokL l ↔ ∀ x ∈ l, bokS x := by
  induction l with
  | nil => simp [bokL]
  | cons x t ih => simp [bokL, ih]
theorem bok_iff (v : S43) : bokS v ↔ ByteOk v.f2 ∧ ∀ x ∈ v.f3, bokS x := by
  obtain ⟨f0, f1, f2, f3⟩ := v
  simp only [bokS, bokL_all]
theorem strs_inj (a b : List Int) (ha : ByteOk a) (hb : ByteOk b) (h : (strOfNums a).toList = (strOfNums b).toList) : a = b := by
  have h' : a.map (fun n => UInt8.ofNat n.toNat) = b.map (fun n => UInt8.ofNat n.toNat) := by
    rw [ByteArray.toList_eq, ByteArray.toList_eq, strOfNums_data, strOfNums_data] at h
    exact h
  clear h
  induction a generalizing b with
  | nil => cases b with
    | nil => rfl
    | cons y t => simp at h'
  | cons x s ih => cases b with
    | nil => simp at h'
    | cons y t =>
      simp only [List.map_cons, List.cons.injEq] at h'
      have hx := ha x (by simp)
      have hy := hb y (by simp)
      have e : x = y := by
        have := congrArg UInt8.toNat h'.1
        simp only [UInt8.toNat_ofNat'] at this
        omega
      rw [e, ih t (fun z hz => ha z (by simp [hz])) (fun z hz => hb z (by simp [hz])) h'.2]
theorem drop_ix (l : List S43) (i : Nat) (h : i < l.length) : l.drop i = rd_T43 l (i : Int) :: l.drop (i + 1) := ixS l i h
theorem S_ext {v w : S43} (h0 : v.f0 = w.f0) (h1 : v.f1 = w.f1) (h2 : v.f2 = w.f2) (h3 : v.f3 = w.f3) : v = w := by cases v; cases w; simp_all
theorem rsameL (v w : S43) (hl : v.f3.length = w.f3.length) (hm : v.f3.length ≤ 100000) (ih : ∀ x ∈ v.f3, ∀ y, ∃ b, Ev (fun k => bastilleref02_Same.f k x.f0 x.f1 x.f2 x.f3 y.f0 y.f1 y.f2 y.f3) b ∧ (b = true ↔ x = y)) :
    ∀ (j i : Nat), i + j = v.f3.length → ∃ b, Ev (fun k => bastilleref02_Same.l0 k (i : Int) v.f0 v.f1 v.f2 v.f3 w.f0 w.f1 w.f2 w.f3) b ∧ (b = true ↔ v.f3.drop i = w.f3.drop i) := by
  intro j
  induction j with
  | zero =>
    intro i hi
    rw [drop_end v.f3 i (by omega), drop_end w.f3 i (by omega)]
    exact ⟨true, Ev.some_ (fun k => by simp only [bastilleref02_Same.l0]; rw [if_neg (by omega)]), by simp⟩
  | succ j ihj =>
    intro i hi
    have hlt : i < v.f3.length := by omega
    have hlt' : i < w.f3.length := by omega
    rw [drop_ix v.f3 i hlt, drop_ix w.f3 i hlt']
    obtain ⟨b1, e1, q1⟩ := ih _ (memS v.f3 i hlt) (rd_T43 w.f3 (i : Int))
    obtain ⟨b2, e2, q2⟩ := ihj (i + 1) (by omega)
    have st : ∀ r, Ev (fun k => (bastilleref02_Same.f k (rd_T43 v.f3 (i : Int)).f0 (rd_T43 v.f3 (i : Int)).f1 (rd_T43 v.f3 (i : Int)).f2 (rd_T43 v.f3 (i : Int)).f3 (rd_T43 w.f3 (i : Int)).f0 (rd_T43 w.f3 (i : Int)).f1 (rd_T43 w.f3 (i : Int)).f2 (rd_T43 w.f3 (i : Int)).f3).bind fun t => if t = true then bastilleref02_Same.l0 k ((i + 1 : Nat) : Int) v.f0 v.f1 v.f2 v.f3 w.f0 w.f1 w.f2 w.f3 else some false) r → Ev (fun k => bastilleref02_Same.l0 k (i : Int) v.f0 v.f1 v.f2 v.f3 w.f0 w.f1 w.f2 w.f3) r :=
      fun r h => Ev.step (fun k => by simp only [bastilleref02_Same.l0]; simp only [if_pos (Int.ofNat_lt.2 hlt), if_pos (Int.ofNat_lt.2 hlt'), if_pos (Int.natCast_nonneg i)]; rw [ix_next i (by omega)]) h
    cases b1 with
    | false =>
      refine ⟨false, st _ (Ev.bind e1 (Ev.now _)), ?_⟩
      constructor
      · intro h; cases h
      · intro h; injection h with h1 h2; have := q1.2 h1; cases this
    | true =>
      refine ⟨b2, st _ (Ev.bind e1 (by simp only [if_true]; exact e2)), ?_⟩
      rw [q2, q1.1 rfl]
      simp
theorem rsame_ev (v : S43) : Small v → ∀ w, ∃ b, Ev (fun k => bastilleref02_Same.f k v.f0 v.f1 v.f2 v.f3 w.f0 w.f1 w.f2 w.f3) b ∧ (b = true ↔ v = w) := by
  refine S_ind (P := fun v => Small v → ∀ w, ∃ b, Ev (fun k => bastilleref02_Same.f k v.f0 v.f1 v.f2 v.f3 w.f0 w.f1 w.f2 w.f3) b ∧ (b = true ↔ v = w)) (fun v ih hs w => ?_) v
  have hsub := hs.sub
  have hl2 := hs.len2
  have hl3 := hs.len3
  have no : ∀ (P : Prop), ¬ P → (false = true ↔ P) := fun P h => ⟨fun h => (by cases h), fun p => absurd p h⟩
  have jf : Ev (fun k => bastilleref02_Same.j0 k true v.f0 v.f1 v.f2 v.f3 w.f0 w.f1 w.f2 w.f3) false := Ev.some_ (fun k => by simp only [bastilleref02_Same.j0, if_true])
  by_cases h0 : v.f0 = w.f0
  · by_cases h1 : v.f1 = w.f1
    · by_cases h2 : v.f2 = w.f2
      · have st : ∀ r, Ev (fun k => bastilleref02_Same.j0 k ((v.f3.length : Int) != (w.f3.length : Int)) v.f0 v.f1 v.f2 v.f3 w.f0 w.f1 w.f2 w.f3) r → Ev (fun k => bastilleref02_Same.f k v.f0 v.f1 v.f2 v.f3 w.f0 w.f1 w.f2 w.f3) r := fun r h => by
          refine Ev.step (f := fun k => (bastilleref01_Same.f k v.f2 w.f2).bind fun t => if t = true then bastilleref02_Same.j0 k ((v.f3.length : Int) != (w.f3.length : Int)) v.f0 v.f1 v.f2 v.f3 w.f0 w.f1 w.f2 w.f3 else bastilleref02_Same.j0 k true v.f0 v.f1 v.f2 v.f3 w.f0 w.f1 w.f2 w.f3) (fun k => by simp only [bastilleref02_Same.f, if_pos h0, if_pos h1]) ?_
          refine Ev.bind (Ev.fin (v.f2.length + 1) (fun k hk => same_ev v.f2 w.f2 (by omega) k hk)) ?_
          simp only [decide_eq_true h2, if_true]
          exact h
        by_cases h3 : v.f3.length = w.f3.length
        · obtain ⟨b, e, q⟩ := rsameL v w h3 hl3 (fun x hx y => ih x hx (hsub x hx) y) v.f3.length 0 (by omega)
          rw [List.drop_zero, List.drop_zero] at q
          refine ⟨b, st _ (Ev.step (fun k => ?_) e), q.trans ⟨fun h => S_ext h0 h1 h2 h, fun h => by rw [h]⟩⟩
          simp only [bastilleref02_Same.j0]
          rw [if_neg (by simp [h3])]
          rfl
        · refine ⟨false, st _ ?_, no _ (fun h => h3 (by rw [h]))⟩
          rw [show ((v.f3.length : Int) != (w.f3.length : Int)) = true by simp; omega]
          exact jf
      · refine ⟨false, ?_, no _ (fun h => h2 (by rw [h]))⟩
        refine Ev.step (f := fun k => (bastilleref01_Same.f k v.f2 w.f2).bind fun t => if t = true then bastilleref02_Same.j0 k ((v.f3.length : Int) != (w.f3.length : Int)) v.f0 v.f1 v.f2 v.f3 w.f0 w.f1 w.f2 w.f3 else bastilleref02_Same.j0 k true v.f0 v.f1 v.f2 v.f3 w.f0 w.f1 w.f2 w.f3) (fun k => by simp only [bastilleref02_Same.f, if_pos h0, if_pos h1]) ?_
        refine Ev.bind (Ev.fin (v.f2.length + 1) (fun k hk => same_ev v.f2 w.f2 (by omega) k hk)) ?_
        simp only [decide_eq_false h2]
        exact jf
    · exact ⟨false, Ev.step (fun k => by simp only [bastilleref02_Same.f, if_pos h0, if_neg h1]) jf, no _ (fun h => h1 (by rw [h]))⟩
  · exact ⟨false, Ev.step (fun k => by simp only [bastilleref02_Same.f, if_neg h0]) jf, no _ (fun h => h0 (by rw [h]))⟩
theorem csameL : ∀ (l m : List S43), (∀ x ∈ l, ∀ y, ∃ b, Ev (fun k => codec_Same.f k x.f0 x.f1 x.f2 x.f3 y.f0 y.f1 y.f2 y.f3) b ∧ (x = y → b = true) ∧ (bokS x → bokS y → b = true → x = y)) → l.length = m.length →
    ∃ b, Ev (fun k => eqL (fun x y => codec_Same.f k x.f0 x.f1 x.f2 x.f3 y.f0 y.f1 y.f2 y.f3) l m) b ∧ (l = m → b = true) ∧ (bokL l → bokL m → b = true → l = m)
  | [], [], _, _ => ⟨true, Ev.now _, fun _ => rfl, fun _ _ _ => rfl⟩
  | x :: s, y :: t, ih, hl => by
    obtain ⟨b1, e1, q1, p1⟩ := ih x (by simp) y
    obtain ⟨b2, e2, q2, p2⟩ := csameL s t (fun z hz => ih z (by simp [hz])) (by simpa using hl)
    simp only [eqL]
    cases b1 with
    | false =>
      refine ⟨false, Ev.bind e1 (Ev.now _), fun h => ?_, fun _ _ h => by cases h⟩
      injection h with h1 h2
      exact q1 h1
    | true =>
      refine ⟨b2, Ev.bind e1 (by simp only [if_true]; exact e2), fun h => ?_, fun h1 h2 h => ?_⟩
      · injection h with h1 h2
        exact q2 h2
      · rw [p1 h1.1 h2.1 rfl, p2 h1.2 h2.2 h]
  | [], _ :: _, _, h => by simp at h
  | _ :: _, [], _, h => by simp at h
theorem csame_ev (v : S43) : ∀ w, ∃ b, Ev (fun k => codec_Same.f k v.f0 v.f1 v.f2 v.f3 w.f0 w.f1 w.f2 w.f3) b ∧ (v = w → b = true) ∧ (bokS v → bokS w → b = true → v = w) := by
  refine S_ind (P := fun v => ∀ w, ∃ b, Ev (fun k => codec_Same.f k v.f0 v.f1 v.f2 v.f3 w.f0 w.f1 w.f2 w.f3) b ∧ (v = w → b = true) ∧ (bokS v → bokS w → b = true → v = w)) (fun v ih w => ?_) v
  have no : v ≠ w → ∀ (e : Ev (fun k => codec_Same.f k v.f0 v.f1 v.f2 v.f3 w.f0 w.f1 w.f2 w.f3) false), ∃ b, Ev (fun k => codec_Same.f k v.f0 v.f1 v.f2 v.f3 w.f0 w.f1 w.f2 w.f3) b ∧ (v = w → b = true) ∧ (bokS v → bokS w → b = true → v = w) :=
    fun h e => ⟨false, e, fun q => absurd q h, fun _ _ q => by cases q⟩
  by_cases h0 : v.f0 = w.f0
  · by_cases h1 : v.f1 = w.f1
    · cases hb : ((strOfNums v.f2).toList == (strOfNums w.f2).toList) with
      | false =>
        refine no (fun h => by rw [h] at hb; simp at hb) (Ev.some_ (fun k => ?_))
        simp only [codec_Same.f, if_pos h0, if_pos h1, bytes_Equal.f, hb, Option.bind_some]
        rfl
      | true =>
        by_cases h3 : v.f3.length = w.f3.length
        · obtain ⟨b, e, q, p⟩ := csameL v.f3 w.f3 ih h3
          refine ⟨b, Ev.step (fun k => ?_) e, fun h => q (by rw [h]), fun hv hw h => ?_⟩
          · simp only [codec_Same.f, if_pos h0, if_pos h1, bytes_Equal.f, hb, Option.bind_some, if_true, if_pos h3]
          · rw [bok_iff] at hv hw
            exact S_ext h0 h1 (strs_inj _ _ hv.1 hw.1 (beq_iff_eq.1 hb)) (p ((bokL_all _).2 hv.2) ((bokL_all _).2 hw.2) h)
        · refine no (fun h => h3 (by rw [h])) (Ev.some_ (fun k => ?_))
          simp only [codec_Same.f, if_pos h0, if_pos h1, bytes_Equal.f, hb, Option.bind_some, if_true, if_neg h3]
    · refine no (fun h => h1 (by rw [h])) (Ev.some_ (fun k => ?_))
      simp only [codec_Same.f, if_pos h0, if_neg h1]
  · refine no (fun h => h0 (by rw [h])) (Ev.some_ (fun k => ?_))
    simp only [codec_Same.f, if_neg h0]
theorem csame_refl (v : S43) : Ev (fun k => codec_Same.f k v.f0 v.f1 v.f2 v.f3 v.f0 v.f1 v.f2 v.f3) true := by
  obtain ⟨b, e, q, _⟩ := csame_ev v v
  rw [← q rfl]
  exact e
theorem rsame_refl (v : S43) (hs : Small v) : Ev (fun k => bastilleref02_Same.f k v.f0 v.f1 v.f2 v.f3 v.f0 v.f1 v.f2 v.f3) true := by
  obtain ⟨b, e, q⟩ := rsame_ev v hs v
  rw [← q.2 rfl]
  exact e

/-! ### codec.Fields and the law -/
theorem fields_l0 (a0 a1 : Int) (l2 : List Int) (l3 : List S43) (ks : List Int) (hl : l3.length = ks.length) (hm : ks.length ≤ 1000000) : ∀ (d i : Nat), i + d = ks.length →
    Ev (fun k => codec_Fields.l0 k ks (ks.length : Int) (i : Int) a0 a1 l2 l3) (if kindsB (l3.drop i) (ks.drop i) = true then (l3, true) else ([], false)) := by
  intro d
  induction d with
  | zero =>
    intro i h
    rw [show l3.drop i = [] from drop_end l3 i (by omega)]
    exact Ev.some_ (fun k => by rw [codec_Fields.l0, if_neg (by omega)]; simp [kindsB])
  | succ d ih =>
    intro i h
    rw [kinds_step l3 ks i (by omega) (by omega)]
    by_cases he : (rd_T43 l3 (i : Int)).f0 = rd ks (i : Int)
    · have hb : ((rd_T43 l3 (i : Int)).f0 == rd ks (i : Int)) = true := beq_iff_eq.2 he
      rw [hb, Bool.true_and]
      refine Ev.step (f := fun k => codec_Fields.l0 k ks (ks.length : Int) ((i + 1 : Nat) : Int) a0 a1 l2 l3) (fun k => ?_) (ih (i + 1) (by omega))
      have q : (i : Int) < (l3.length : Int) := by omega
      rw [codec_Fields.l0, if_pos (by omega), if_pos (by omega), if_pos (by omega)]
      simp only [if_pos q, if_pos he, ix_next i (by omega), ite_self]
    · have hb : ((rd_T43 l3 (i : Int)).f0 == rd ks (i : Int)) = false := beq_eq_false_iff_ne.2 he
      rw [hb, Bool.false_and]
      refine Ev.some_ (fun k => ?_)
      have q : (i : Int) < (l3.length : Int) := by omega
      rw [codec_Fields.l0, if_pos (by omega), if_pos (by omega), if_pos (by omega)]
      simp only [if_pos q, if_neg he, ite_self, Bool.false_eq_true, if_false]
theorem fields_ev (a0 a1 : Int) (l2 : List Int) (l3 : List S43) (ks : List Int) (hm : ks.length ≤ 1000000) :
    Ev (fun k => codec_Fields.f k a0 a1 l2 l3 ks) (if wantB a0 l3 ks = true then (l3, true) else ([], false)) := by
  by_cases h0 : a0 = 3
  · by_cases hl : l3.length = ks.length
    · refine Ev.step (f := fun k => codec_Fields.l0 k ks (ks.length : Int) ((0 : Nat) : Int) a0 a1 l2 l3) (fun k => ?_) ?_
      · rw [codec_Fields.f, if_pos h0, codec_Fields.j0, if_neg (by simp; omega)]
        rfl
      · have h := fields_l0 a0 a1 l2 l3 ks hl hm ks.length 0 (by omega)
        simpa [wantB, h0, hl] using h
    · refine Ev.some_ (fun k => ?_)
      rw [codec_Fields.f, if_pos h0, codec_Fields.j0, if_pos (by simp; omega)]
      simp [wantB, hl]
  · refine Ev.some_ (fun k => ?_)
    rw [codec_Fields.f, if_neg h0, codec_Fields.j0, if_pos rfl]
    simp [wantB, h0]
theorem bok_g (v : S43) : g43 v → bokS v := by
  refine S_ind (P := fun v => g43 v → bokS v) (fun v ih h => ?_) v
  rw [bok_iff]
  cases h
  rename_i h0 h1 h2 h3 h4 h5
  exact ⟨byteOk_of h3, fun x hx => ih x hx (h5 x hx)⟩
theorem bok_args {a0 a1 : Int} {l2 : List Int} {l3 : List S43} (h2 : l2.length ≤ maxLen ∧ ∀ y_ ∈ l2, (Lit.int .u8 y_).wf = true) (h3 : okG l3) : bokS (⟨a0, a1, l2, l3⟩ : S43) := by
  rw [bok_iff]
  exact ⟨byteOk_of h2.2, fun x hx => bok_g x (h3.2 x hx)⟩
theorem small_list {v : S43} (h : Small v) : Small (⟨3, 0, [], v.f3⟩ : S43) := by
  obtain ⟨f0, f1, f2, f3⟩ := v
  refine ⟨?_, ?_⟩
  · have := h.cnt
    simp only [cntS] at this ⊢
    exact this
  · have := h.ok
    simp only [okS, Bool.and_eq_true] at this ⊢
    simp [this]
theorem CodecFields : bastillelaw02_CodecFields.Pure := by
  intro a0 a1 l2 l3 b0 b1 m2 m3 ks _ _ h2 h3 _ _ g2 g3 hk
  refine Ev.rounds (r := true) ?_
  unfold bastillelaw02_CodecFields.f
  refine Ev.bind awake_ev ?_
  simp only [if_true]
  obtain ⟨u, eu, hu⟩ := few_ev ⟨a0, a1, l2, l3⟩ h3
  refine Ev.bind eu ?_
  cases u with
  | false => exact Ev.now _
  | true =>
    have hsa := hu rfl
    simp only [if_true]
    obtain ⟨v, ev, hv⟩ := few_ev ⟨b0, b1, m2, m3⟩ g3
    refine Ev.bind ev ?_
    cases v with
    | false => exact Ev.now _
    | true =>
      have hsb := hv rfl
      simp only [if_true]
      by_cases hlen : ks.length > 20
      · simp only [if_pos hlen]
        exact Ev.now _
      · simp only [if_neg hlen]
        refine Ev.bind (fields_ev a0 a1 l2 l3 ks (by omega)) ?_
        have hl3 := small_list hsa
        have hrest : Ev (fun k => (bastilleref01_Same.f k m2 m2).bind fun s1 => if s1 = true then (bastilleref02_Same.f k a0 a1 l2 l3 a0 a1 l2 l3).bind fun s2 => if s2 = true then (bastilleref02_Same.f k b0 b1 m2 m3 b0 b1 m2 m3).bind fun s3 => if s3 = true then
          (codec_Same.f k a0 a1 l2 l3 b0 b1 m2 m3).bind fun e1 => (bastilleref02_Same.f k a0 a1 l2 l3 b0 b1 m2 m3).bind fun e2 => if e1 = e2 then
            (codec_Same.f k a0 a1 l2 l3 a0 a1 l2 l3).bind fun e3 => if e3 = true then some true else none
          else none
        else none else none else none) true := by
          refine Ev.bind (Ev.fin (m2.length + 1) (fun k hk => same_refl m2 (by have : m2.length ≤ 100000 := hsb.len2; omega) k hk)) ?_
          simp only [if_true]
          refine Ev.bind (rsame_refl (⟨a0, a1, l2, l3⟩ : S43) hsa) ?_
          simp only [if_true]
          refine Ev.bind (rsame_refl (⟨b0, b1, m2, m3⟩ : S43) hsb) ?_
          simp only [if_true]
          obtain ⟨e1, he1, t1, f1⟩ := csame_ev (⟨a0, a1, l2, l3⟩ : S43) ⟨b0, b1, m2, m3⟩
          obtain ⟨e2, he2, i2⟩ := rsame_ev (⟨a0, a1, l2, l3⟩ : S43) hsa ⟨b0, b1, m2, m3⟩
          have hee : e1 = e2 := by
            have hx := f1 (bok_args h2 h3) (bok_args g2 g3)
            cases e1 with
            | true => rw [i2.2 (hx rfl)]
            | false =>
              cases e2 with
              | false => rfl
              | true => have := t1 (i2.1 rfl); cases this
          subst hee
          refine Ev.bind he1 ?_
          refine Ev.bind he2 ?_
          simp only [if_true]
          refine Ev.bind (csame_refl (⟨a0, a1, l2, l3⟩ : S43)) ?_
          simp only [if_true]
          exact Ev.now _
        cases hw : wantB a0 l3 ks with
        | true =>
          simp only [if_true]
          refine Ev.bind (rsame_refl (⟨3, 0, [], l3⟩ : S43) hl3) ?_
          simp only [if_true]
          exact hrest
        | false =>
          simp only [if_true, if_false, Bool.false_eq_true]
          refine Ev.bind (Ev.now (decide (([] : List S43).length = 0))) ?_
          simp only [List.length_nil, decide_true, if_true]
          exact hrest

end Go.Proofs.Ytiibnfnjfmcggaa.Pure
