/- The plain law of the statement CodecBack, for every input. -/
import Derived.Test.YtiibnfnjfmcggaaPCodecBackg
import Derived.Laws.BitsAllLaws
namespace Go.Proofs.Ytiibnfnjfmcggaa.Pure
open Go.RowKit Go.Proofs.Ytiibnfnjfmcggaa.PCodecBack Go.Proofs.YtiibnfnjfmcggaaW.PrintWords Go.Proofs.YtiibnfnjfmcggaaW.PrintLast Go.Proofs.YtiibnfnjfmcggaaW.PrintMore
set_option linter.unusedVariables false
set_option linter.unusedSimpArgs false

/-! ### plain laws: numbers as bytes -/
theorem w64i {x : Int} (h0 : -9223372036854775808 ≤ x) (h1 : x ≤ 9223372036854775807) : wrap64 x = x := by unfold wrap64; omega
theorem u64i {x : Int} (h0 : 0 ≤ x) (h1 : x ≤ 18446744073709551615) : IntKind.u64.wrap x = x := by
  simp only [IntKind.wrap, IntKind.bits, IntKind.signed]
  simp
  omega
theorem rounds_ex {k m : Nat} (h : m + 1 ≤ k) : ∃ j, k = j + 1 ∧ m ≤ j := ⟨k - 1, by omega, by omega⟩
def byteAt (n : Int) (j : Nat) : Int := n / 2 ^ (8 * j) % 256
def lowL (n : Int) (s : Nat) : List Int := (List.range' 0 s).map (byteAt n)
theorem byteAt_succ (n : Int) (j : Nat) : byteAt (n / 256) j = byteAt n (j + 1) := by
  unfold byteAt
  rw [Int.ediv_ediv_of_nonneg (by decide), show (2 : Int) ^ (8 * (j + 1)) = 256 * 2 ^ (8 * j) by rw [show 8 * (j + 1) = 8 * j + 8 by omega, Int.pow_add]; omega]
theorem shr_byte (n : Int) (i : Nat) (hi : i ≤ 8) : shr .i64 n (8 * (i : Int)) = n / 2 ^ (8 * i) := by
  unfold shr
  rw [show (8 * (i : Int)).toNat = 8 * i by omega, Nat.min_eq_left (by simp [IntKind.bits]; omega)]
def lowBad (n s : Int) : Bool := decide (s < 1) || decide (s > 8) || decide (n < 0) || decide (n > 4611686018427387904) || (decide (s < 8) && decide (n / 2 ^ (8 * s.toNat) ≠ 0))
def lowS (n s : Int) : List Int × Int := if lowBad n s then ([], 2) else (lowL n s.toNat, 0)

theorem word_low_l0 (n : Int) (s : Nat) (hs : s ≤ 8) : ∀ (d k i : Nat) (l : List Int), i + d = s → l.length = s → d < k →
    word_Low.l0 k n l (s : Int) (i : Int) = some (l.take i ++ (List.range' i d).map (byteAt n), 0) := by
  intro d
  induction d with
  | zero =>
    intro k i l h1 h2 hk
    obtain ⟨k, rfl, _⟩ := rounds_ex (m := 0) (by omega : 0 + 1 ≤ k)
    simp only [word_Low.l0]
    rw [if_neg (by omega), List.take_of_length_le (by omega)]
    simp
  | succ d ih =>
    intro k i l h1 h2 hk
    obtain ⟨k, rfl, hk'⟩ := rounds_ex (m := d + 1) (by omega : d + 1 + 1 ≤ k)
    have e : IntKind.u64.wrap (wrap64 (8 * (i : Int))) = 8 * (i : Int) := by rw [w64i (by omega) (by omega), u64i (by omega) (by omega)]
    simp only [word_Low.l0]
    rw [if_pos (by omega), e, if_pos (by omega), if_pos (by omega), if_pos (by omega), w64i (by omega) (by omega), shr_byte n i (by omega)]
    have := ih k (i + 1) (l.set (i : Int).toNat (n / 2 ^ (8 * i) % 256)) (by omega) (by simpa using h2) (by omega)
    rw [show (((i + 1 : Nat)) : Int) = (i : Int) + 1 by omega] at this
    rw [this]
    have e2 : (i : Int).toNat = i := by omega
    rw [e2, List.range'_succ, List.map_cons, List.take_succ_eq_append_getElem (by simp; omega), List.getElem_set_self, List.take_set_of_le (Nat.le_refl _), List.append_assoc]
    rfl

theorem word_low_bad (k : Nat) (n s : Int) (hk : 1 ≤ k) : word_Low.j0 k n s true = some ([], 2) := by
  obtain ⟨k, rfl, _⟩ := rounds_ex (m := 0) (by omega : 0 + 1 ≤ k)
  simp [word_Low.j0]
theorem word_low_good (k : Nat) (n s : Int) (h1 : 1 ≤ s) (h2 : s ≤ 8) (hk : 12 ≤ k) : word_Low.j0 k n s false = some (lowL n s.toNat, 0) := by
  obtain ⟨k, rfl, hk⟩ := rounds_ex (m := 11) (by omega : 11 + 1 ≤ k)
  simp only [word_Low.j0]
  rw [if_neg (by simp), if_pos (by omega), if_pos (by omega)]
  simp only [Option.bind_some, List.length_replicate]
  have := word_low_l0 n s.toNat (by omega) s.toNat k 0 (List.replicate s.toNat 0) (by omega) (by simp) (by omega)
  rw [show ((0 : Nat) : Int) = 0 by rfl] at this
  rw [this]
  simp [lowL]
theorem word_low (n s : Int) (k : Nat) (hk : 12 ≤ k) : word_Low.f k n s = some (lowS n s) := by
  unfold word_Low.f lowS lowBad
  by_cases h1 : s < 1
  · rw [if_pos h1, word_low_bad k n s (by omega)]; simp [h1]
  by_cases h2 : s > 8
  · rw [if_neg h1, if_pos h2, word_low_bad k n s (by omega)]; simp [h2]
  by_cases h3 : n < 0
  · rw [if_neg h1, if_neg h2, if_pos h3, word_low_bad k n s (by omega)]; simp [h3]
  by_cases h4 : n > 4611686018427387904
  · rw [if_neg h1, if_neg h2, if_neg h3, if_pos h4, word_low_bad k n s (by omega)]; simp [h4]
  rw [if_neg h1, if_neg h2, if_neg h3, if_neg h4]
  by_cases h5 : s < 8
  · have e : IntKind.u64.wrap (wrap64 (8 * s)) = 8 * s := by rw [w64i (by omega) (by omega), u64i (by omega) (by omega)]
    rw [if_pos h5, e, if_pos (by omega)]
    have e2 := shr_byte n s.toNat (by omega)
    rw [show ((s.toNat : Nat) : Int) = s by omega] at e2
    rw [e2]
    by_cases h6 : n / 2 ^ (8 * s.toNat) = 0
    · rw [h6, show ((0 : Int) != 0) = false by rfl, word_low_good k n s (by omega) (by omega) hk]
      simp [h1, h2, h3, h4]
    · rw [show ((n / 2 ^ (8 * s.toNat)) != 0) = true by simpa using h6, word_low_bad k n s (by omega)]
      simp [h5, h6]
  · rw [if_neg h5, word_low_good k n s (by omega) (by omega) hk]
    simp [h1, h2, h3, h4, h5]
theorem lowL_length (n : Int) (s : Nat) : (lowL n s).length = s := by simp [lowL]
theorem lowS_length (n s : Int) : (lowS n s).1.length ≤ 8 := by
  unfold lowS
  split
  · simp
  · rename_i h
    simp [lowBad] at h
    simp [lowL_length]; omega
theorem word_put (n s : Int) (k : Nat) (hk : 12 ≤ k) : word_Put.f k n s = some ((lowS n s).1.reverse, (lowS n s).2) := by
  unfold word_Put.f
  rw [word_low n s k hk]
  simp only [Option.bind_some, word_turned_byte.f]
  have := lowS_length n s
  rw [if_pos (by omega)]
  rfl

theorem lowL_succ (n : Int) (s : Nat) : lowL n (s + 1) = n % 256 :: lowL (n / 256) s := by
  unfold lowL
  rw [List.range'_succ, List.map_cons]
  congr 1
  · simp [byteAt]
  · apply List.ext_getElem (by simp)
    intro j _ _
    simp only [List.getElem_map, List.getElem_range', Nat.one_mul, Nat.zero_add]
    rw [byteAt_succ, Nat.add_comm]

/-! ### loops, by 'from some number of rounds on' -/
theorem w64w (a : Int) : wrap64 (wrap64 a) = wrap64 a := by unfold wrap64; omega
theorem w64l (a b : Int) : wrap64 (wrap64 a + b) = wrap64 (a + b) := by unfold wrap64; omega
theorem w64r (a b : Int) : wrap64 (a + wrap64 b) = wrap64 (a + b) := by unfold wrap64; omega
theorem w64mul (c a : Int) : wrap64 (c * wrap64 a) = wrap64 (c * a) := by
  have e : ∀ x : Int, wrap64 x = x - 18446744073709551616 * ((x + 9223372036854775808) / 18446744073709551616) := by intro x; unfold wrap64; omega
  rw [e a, Int.mul_sub, ← Int.mul_assoc, Int.mul_comm c 18446744073709551616, Int.mul_assoc]
  unfold wrap64
  omega
theorem w64lr (a b : Int) : wrap64 (wrap64 a + wrap64 b) = wrap64 (a + b) := by rw [w64l, w64r]
theorem ix_next (i : Nat) (h : (i : Int) < 9223372036854775807) : wrap64 ((i : Int) + 1) = ((i + 1 : Nat) : Int) := by rw [w64i (by omega) (by omega)]; omega
theorem Ev.some_ {α : Type} {g : Nat → Option α} {r : α} (h : ∀ k, g (k + 1) = some r) : Ev g r := Ev.step h (Ev.now r)
def tot {α : Type} (f : α → Int) : List α → Int
  | [] => 0
  | x :: t => f x + tot f t
theorem getD_drop {α : Type} (l : List α) (z : α) (i : Nat) (h : i < l.length) : l.drop i = l.getD (i : Int).toNat z :: l.drop (i + 1) := by
  rw [List.drop_eq_getElem_cons h, show (i : Int).toNat = i by omega]
  congr 1
  simp [List.getD, List.getElem?_eq_getElem h]
theorem drop_end {α : Type} (l : List α) (i : Nat) (h : i = l.length) : l.drop i = [] := List.drop_of_length_le (by omega)

/-! ### plain laws: trees of values -/
theorem S_ind {P : S43 → Prop} (h : ∀ v : S43, (∀ x ∈ v.f3, P x) → P v) : ∀ v, P v := by
  have key : ∀ (n : Nat) (v : S43), SizeOf.sizeOf v ≤ n → P v := by
    intro n
    induction n with
    | zero => intro v hv; cases v; simp at hv
    | succ n ih =>
      intro v hv
      refine h v (fun x hx => ih x ?_)
      have h1 := List.sizeOf_lt_of_mem hx
      have h2 : SizeOf.sizeOf v.f3 < SizeOf.sizeOf v := by cases v; simp <;> omega
      omega
  intro v
  exact key _ v (Nat.le_refl _)
def digs : Nat → Int → Nat
  | 0, _ => 0
  | m + 1, n => if n > 0 then digs m (n / 256) + 1 else 0
def numB (n : Int) : List Int := 1 :: (digs 8 n : Int) :: (lowL n (digs 8 n)).reverse
mutual
def bytesS : S43 → List Int
  | ⟨f0, f1, f2, f3⟩ => if f0 = 1 then numB f1 else if f0 = 2 then [2] ++ (lowL f2.length 3).reverse ++ f2 else [3] ++ (lowL f3.length 2).reverse ++ bytesL f3
def bytesL : List S43 → List Int
  | [] => []
  | x :: t => bytesS x ++ bytesL t
end
mutual
def pureS : S43 → Bool
  | ⟨f0, f1, f2, f3⟩ => if f0 = 1 then decide (f1 ≥ 0) && decide (f1 ≤ 4611686018427387904) && f2.isEmpty && f3.isEmpty else if f0 = 2 then decide (f1 = 0) && f3.isEmpty else if f0 = 3 then decide (f1 = 0) && f2.isEmpty && decide (f3.length ≤ 4096) && pureL f3 else false
def pureL : List S43 → Bool
  | [] => true
  | x :: t => pureS x && pureL t
end
mutual
def deepS : S43 → Nat
  | ⟨f0, _, _, f3⟩ => if f0 = 3 then 1 + deepL f3 else 0
def deepL : List S43 → Nat
  | [] => 0
  | x :: t => max (deepS x) (deepL t)
end
mutual
def cntS : S43 → Nat
  | ⟨_, _, _, f3⟩ => 1 + cntL f3
def cntL : List S43 → Nat
  | [] => 0
  | x :: t => cntS x + cntL t
end
mutual
def okS : S43 → Bool
  | ⟨_, _, f2, f3⟩ => decide (f2.length ≤ 100000) && okL f3
def okL : List S43 → Bool
  | [] => true
  | x :: t => okS x && okL t
end
theorem okL_all (l : List S43) : okL l = true ↔ ∀ x ∈ l, okS x = true := by
  induction l with
  | nil => simp [okL]
  | cons x t ih => simp [okL, ih]
theorem pureL_all (l : List S43) : pureL l = true ↔ ∀ x ∈ l, pureS x = true := by
  induction l with
  | nil => simp [pureL]
  | cons x t ih => simp [pureL, ih]
theorem cntL_mem (l : List S43) : ∀ x ∈ l, cntS x ≤ cntL l := by
  induction l with
  | nil => simp
  | cons y t ih =>
    intro x hx
    rcases List.mem_cons.1 hx with rfl | hx
    · simp [cntL]
    · have := ih x hx
      simp [cntL]
      omega
theorem cntS_pos (v : S43) : 1 ≤ cntS v := by cases v; simp [cntS]
theorem cntL_len (l : List S43) : l.length ≤ cntL l := by
  induction l with
  | nil => simp
  | cons x t ih =>
    have := cntS_pos x
    simp [cntL]
    omega
theorem cntL_drop (l : List S43) (i : Nat) : cntL (l.drop i) ≤ cntL l := by
  induction l generalizing i with
  | nil => simp
  | cons x t ih =>
    cases i with
    | zero => simp
    | succ i =>
      have := ih i
      simp [cntL]
      omega
theorem cnt_f3 (v : S43) : cntS v = 1 + cntL v.f3 := by cases v; simp [cntS]
theorem ok_f3 (v : S43) (h : okS v = true) : v.f2.length ≤ 100000 ∧ ∀ x ∈ v.f3, okS x = true := by
  cases v
  simp only [okS, Bool.and_eq_true, decide_eq_true_eq] at h
  exact ⟨h.1, (okL_all _).1 h.2⟩
/-- what is asked of a tree, so that no sum passes its bounds -/
structure Small (v : S43) : Prop where
  cnt : cntS v ≤ 100000
  ok : okS v = true
theorem Small.sub {v : S43} (h : Small v) : ∀ x ∈ v.f3, Small x := fun x hx => ⟨by have := cntL_mem _ x hx; have := cnt_f3 v; have := h.cnt; omega, (ok_f3 v h.ok).2 x hx⟩
theorem Small.len3 {v : S43} (h : Small v) : v.f3.length ≤ 100000 := by have := cntL_len v.f3; have := cnt_f3 v; have := h.cnt; omega
theorem Small.len2 {v : S43} (h : Small v) : v.f2.length ≤ 100000 := (ok_f3 v h.ok).1
theorem digs_le : ∀ m n, digs m n ≤ m
  | 0, _ => Nat.le_refl _
  | m + 1, n => by
    simp only [digs]
    split
    · have := digs_le m (n / 256); omega
    · omega
theorem numB_length (n : Int) : (numB n).length ≤ 10 := by
  have := digs_le 8 n
  simp [numB, lowL_length]
  omega
theorem bytes_len (v : S43) : okS v = true → (bytesS v).length ≤ 200000 * cntS v := by
  refine S_ind (P := fun v => okS v = true → (bytesS v).length ≤ 200000 * cntS v) (fun v ih h => ?_) v
  have hl : ∀ l : List S43, (∀ x ∈ l, (bytesS x).length ≤ 200000 * cntS x) → (bytesL l).length ≤ 200000 * cntL l := by
    intro l
    induction l with
    | nil => intro _; simp [bytesL]
    | cons x t iht =>
      intro hx
      have h1 := hx x (by simp)
      have h2 := iht (fun y hy => hx y (by simp [hy]))
      simp only [bytesL, cntL, List.length_append]
      omega
  have h1 := ok_f3 v h
  have h2 := hl v.f3 (fun x hx => ih x hx (h1.2 x hx))
  obtain ⟨f0, f1, f2, f3⟩ := v
  simp only [bytesS, cntS]
  split
  · have := numB_length f1; omega
  · split
    · simp [lowL_length]; have := h1.1; simp at this; omega
    · simp [lowL_length]; simp at h2; omega
theorem deep_le (v : S43) : deepS v ≤ cntS v := by
  refine S_ind (P := fun v => deepS v ≤ cntS v) (fun v ih => ?_) v
  have hl : ∀ l : List S43, (∀ x ∈ l, deepS x ≤ cntS x) → deepL l ≤ cntL l := by
    intro l
    induction l with
    | nil => intro _; simp [deepL]
    | cons x t iht =>
      intro hx
      have h1 := hx x (by simp)
      have h2 := iht (fun y hy => hx y (by simp [hy]))
      simp only [deepL, cntL]
      omega
  have h2 := hl v.f3 ih
  obtain ⟨f0, f1, f2, f3⟩ := v
  simp only [deepS, cntS]
  split
  · simp at h2; omega
  · omega
/-! numbers -/
def plainS (n : Int) : List Int := ((lowS n 8).1.reverse).dropWhile (fun x => x == 0)
theorem strip (m : Nat) : ∀ n : Int, 0 ≤ n → n / 2 ^ (8 * m) = 0 → ((lowL n m).reverse).dropWhile (fun x => x == 0) = (lowL n (digs m n)).reverse ∧ (n > 0 → digs m n ≠ 0) ∧ n / 2 ^ (8 * digs m n) = 0 := by
  induction m with
  | zero => intro n h0 h1; simp at h1; subst h1; exact ⟨rfl, by omega, by simp [digs]⟩
  | succ m ih =>
    intro n h0 h1
    have hq : n / 256 / 2 ^ (8 * m) = 0 := by rw [Int.ediv_ediv_of_nonneg (by decide), ← h1, show (2 : Int) ^ (8 * (m + 1)) = 256 * 2 ^ (8 * m) by rw [show 8 * (m + 1) = 8 * m + 8 by omega, Int.pow_add]; omega]
    obtain ⟨i1, i2, i3⟩ := ih (n / 256) (by omega) hq
    rw [lowL_succ, List.reverse_cons, List.dropWhile_append, i1]
    by_cases hn : n > 0
    · have e : digs (m + 1) n = digs m (n / 256) + 1 := by simp [digs, hn]
      rw [e]
      refine ⟨?_, by omega, ?_⟩
      · rw [lowL_succ, List.reverse_cons]
        by_cases hd : digs m (n / 256) = 0
        · have : ¬ n / 256 > 0 := fun h => i2 h hd
          rw [hd]
          have hne : ¬ n % 256 = 0 := by omega
          simp [lowL, hne]
        · have : ((lowL (n / 256) (digs m (n / 256))).reverse).isEmpty = false := by
            rw [List.isEmpty_eq_false_iff]
            intro h
            have := congrArg List.length h
            simp [lowL_length] at this
            exact hd this
          rw [this]
          rfl
      · rw [show (2 : Int) ^ (8 * (digs m (n / 256) + 1)) = 256 * 2 ^ (8 * digs m (n / 256)) by rw [show 8 * (digs m (n / 256) + 1) = 8 * digs m (n / 256) + 8 by omega, Int.pow_add]; omega, ← Int.ediv_ediv_of_nonneg (by decide)]
        exact i3
    · have h00 : n = 0 := by omega
      subst h00
      have e : digs m (0 / 256) = 0 := by cases m <;> simp [digs]
      rw [e]
      refine ⟨by simp [lowL, digs], by omega, by simp⟩
theorem plain_num (n : Int) (h0 : 0 ≤ n) (h1 : n ≤ 4611686018427387904) : plainS n = (lowL n (digs 8 n)).reverse ∧ lowS n (digs 8 n : Int) = (if n = 0 then ([], 2) else (lowL n (digs 8 n), 0)) := by
  have h8 : n / 2 ^ (8 * 8) = 0 := by rw [show (2 : Int) ^ (8 * 8) = 18446744073709551616 by rfl]; omega
  obtain ⟨a, b, c⟩ := strip 8 n h0 h8
  have e : lowS n 8 = (lowL n 8, 0) := by
    unfold lowS lowBad
    simp [h0, h1] <;> omega
  refine ⟨by unfold plainS; rw [e]; exact a, ?_⟩
  have hle := digs_le 8 n
  unfold lowS lowBad
  by_cases hn : n = 0
  · subst hn
    simp [digs]
  · rw [if_neg hn]
    have := b (by omega)
    rw [Int.toNat_natCast, c]
    have e2 : (decide ((digs 8 n : Int) < 1) || decide ((digs 8 n : Int) > 8) || decide (n < 0) || decide (n > 4611686018427387904) || (decide ((digs 8 n : Int) < 8) && decide ((0 : Int) ≠ 0))) = false := by
      rw [decide_eq_false (show ¬ (digs 8 n : Int) < 1 by omega), decide_eq_false (show ¬ (digs 8 n : Int) > 8 by omega), decide_eq_false (show ¬ n < 0 by omega), decide_eq_false (show ¬ n > 4611686018427387904 by omega)]
      simp
    rw [e2]
    rfl
theorem plain_l0 : ∀ (l : List Int) (k : Nat), l.length < k → codec_plain.l0 k l = some (l.dropWhile (fun x => x == 0)) := by
  intro l
  induction l with
  | nil =>
    intro k hk
    obtain ⟨k, rfl, _⟩ := rounds_ex (m := 0) (by omega : 0 + 1 ≤ k)
    simp [codec_plain.l0]
  | cons x t ih =>
    intro k hk
    obtain ⟨k, rfl, hk'⟩ := rounds_ex (m := t.length + 1) (by simp at hk; omega : t.length + 1 + 1 ≤ k)
    simp only [codec_plain.l0]
    rw [if_pos (by simp <;> omega), if_pos (by simp <;> omega)]
    by_cases h : x = 0
    · subst h
      rw [if_pos (by rfl), if_pos (by simp <;> omega)]
      rw [show List.drop (1 : Int).toNat ((0 : Int) :: t) = t from rfl, ih k (by omega)]
      simp
    · rw [if_neg (by simpa [rd] using h)]
      simp [h]
theorem plain_ev (n : Int) (k : Nat) (hk : 20 ≤ k) : codec_plain.f k n = some (plainS n) := by
  unfold codec_plain.f
  rw [word_put n 8 k (by omega)]
  simp only [Option.bind_some]
  have := lowS_length n 8
  rw [plain_l0 _ k (by simp <;> omega)]
  rfl
theorem plainS_len (n : Int) : (plainS n).length ≤ 8 := by
  have := lowS_length n 8
  have h2 := (List.dropWhile_sublist (l := (lowS n 8).1.reverse) (fun x => x == 0)).length_le
  unfold plainS
  simp at h2 ⊢
  omega
theorem low_ok (n : Nat) (s : Nat) (h1 : 1 ≤ s) (h2 : s ≤ 8) (h3 : (n : Int) / 2 ^ (8 * s) = 0) (h4 : n ≤ 4611686018427387904) : lowS (n : Int) (s : Int) = (lowL n s, 0) := by
  unfold lowS lowBad
  rw [Int.toNat_natCast, h3]
  simp
  omega

set_option maxHeartbeats 4000000
/-! ### plain laws: the program's own coding -/
theorem num_le (n : Nat) (s : Nat) (hs : n < 2 ^ (8 * s)) : (n : Int) / 2 ^ (8 * s) = 0 := by
  refine Int.ediv_eq_zero_of_lt (by omega) ?_
  exact_mod_cast hs
theorem Ev.fin {α : Type} {g : Nat → Option α} {r : α} (K : Nat) (h : ∀ k, K ≤ k → g k = some r) : Ev g r := ⟨K, h⟩
theorem put_ev_n (n s : Int) : Ev (fun k => word_Put.f k n s) ((lowS n s).1.reverse, (lowS n s).2) := Ev.fin 12 (fun k hk => word_put n s k hk)
theorem ixS (l : List S43) (i : Nat) (h : i < l.length) : l.drop i = rd_T43 l (i : Int) :: l.drop (i + 1) := getD_drop l z43 i h
theorem memS (l : List S43) (i : Nat) (h : i < l.length) : rd_T43 l (i : Int) ∈ l := by
  have := List.mem_of_mem_drop (i := i) (l := l) (a := rd_T43 l (i : Int)) (by rw [ixS l i h]; exact List.mem_cons_self)
  exact this
theorem bytesL_small (l : List S43) (h : ∀ x ∈ l, okS x = true) : (bytesL l).length ≤ 200000 * cntL l := by
  induction l with
  | nil => simp [bytesL]
  | cons x t iht =>
    have h1 := bytes_len x (h x (by simp))
    have h2 := iht (fun y hy => h y (by simp [hy]))
    simp only [bytesL, cntL, List.length_append]
    omega
/-- codec.put -/
theorem put_ev (v : S43) : Small v → pureS v = true → ∀ out : List Int, out.length + (bytesS v).length ≤ 100000000000 → Ev (fun k => codec_put.f k out v.f0 v.f1 v.f2 v.f3) (out ++ bytesS v) := by
  refine S_ind (P := fun v => Small v → pureS v = true → ∀ out : List Int, out.length + (bytesS v).length ≤ 100000000000 → Ev (fun k => codec_put.f k out v.f0 v.f1 v.f2 v.f3) (out ++ bytesS v)) (fun v ih hs hp out ho => ?_) v
  have hl2 := hs.len2
  have hl3 := hs.len3
  have hsub := hs.sub
  obtain ⟨f0, f1, f2, f3⟩ := v
  simp only [pureS] at hp
  simp only [bytesS] at ho ⊢
  simp only at hl2 hl3 ih hsub
  by_cases h1 : f0 = 1
  · subst h1
    simp only [if_true, Bool.and_eq_true, decide_eq_true_eq] at hp ho ⊢
    obtain ⟨⟨⟨p1, p2⟩, _⟩, _⟩ := hp
    refine Ev.step (f := fun k => (codec_plain.f k f1).bind fun b => if out.length + 2 + b.length ≤ 140737488355328 then some (out ++ [1, (b.length : Int) % 256] ++ b) else none) (fun k => by simp only [codec_put.f, if_true]) ?_
    refine Ev.bind (a := plainS f1) (Ev.fin 20 (fun k hk => plain_ev f1 k hk)) ?_
    have := plainS_len f1
    simp only [if_pos (show out.length + 2 + (plainS f1).length ≤ 140737488355328 by omega)]
    have e : out ++ [1, ((plainS f1).length : Int) % 256] ++ plainS f1 = out ++ numB f1 := by
      rw [(plain_num f1 p1 p2).1, List.append_assoc]
      unfold numB
      have hd := digs_le 8 f1
      rw [List.length_reverse, lowL_length, show ((digs 8 f1 : Nat) : Int) % 256 = (digs 8 f1 : Int) by omega]
      rfl
    rw [e]
    exact Ev.now _
  rw [if_neg h1] at hp ho ⊢
  by_cases h2 : f0 = 2
  · subst h2
    simp only [if_true] at ho ⊢
    refine Ev.step (f := fun k => (word_Put.f k (f2.length : Int) 3).bind fun n => if out.length + 1 + n.1.length + f2.length ≤ 140737488355328 then some (out ++ [2] ++ n.1 ++ f2) else none) (fun k => by simp only [codec_put.f, if_true, show ¬ (2 : Int) = 1 by decide, if_false]) ?_
    refine Ev.bind (put_ev_n _ _) ?_
    rw [show (3 : Int) = ((3 : Nat) : Int) from rfl, low_ok f2.length 3 (by omega) (by omega) (num_le _ _ (by omega)) (by omega)]
    have hq : out.length + 1 + ((lowL (f2.length : Int) 3).reverse).length + f2.length ≤ 140737488355328 := by rw [List.length_reverse, lowL_length]; omega
    simp only [if_pos hq]
    rw [show out ++ [2] ++ (lowL (f2.length : Int) 3).reverse ++ f2 = out ++ ([2] ++ (lowL (f2.length : Int) 3).reverse ++ f2) by simp]
    exact Ev.now _
  · rw [if_neg h2] at hp ho ⊢
    by_cases h3 : f0 = 3
    · subst h3
      simp only [if_true, Bool.and_eq_true, decide_eq_true_eq] at hp
      obtain ⟨⟨⟨_, _⟩, p3⟩, p4⟩ := hp
      refine Ev.step (f := fun k => (word_Put.f k (f3.length : Int) 2).bind fun n => if out.length + 1 + n.1.length ≤ 140737488355328 then f3.foldlM (fun o x => codec_put.f k o x.f0 x.f1 x.f2 x.f3) (out ++ [3] ++ n.1) else none) (fun k => by simp only [codec_put.f, show ¬ (3 : Int) = 1 by decide, show ¬ (3 : Int) = 2 by decide, if_false]) ?_
      refine Ev.bind (put_ev_n _ _) ?_
      rw [show (2 : Int) = ((2 : Nat) : Int) from rfl, low_ok f3.length 2 (by omega) (by omega) (num_le _ _ (by omega)) (by omega)]
      have hlen : ((lowL (f3.length : Int) 2).reverse).length = 2 := by rw [List.length_reverse, lowL_length]
      have hq : out.length + 1 + ((lowL (f3.length : Int) 2).reverse).length ≤ 140737488355328 := by omega
      simp only [if_pos hq]
      have ho' : (out ++ [3] ++ (lowL (f3.length : Int) 2).reverse).length + (bytesL f3).length ≤ 100000000000 := by
        simp only [List.length_append, List.length_singleton] at ho ⊢
        omega
      rw [show out ++ ([3] ++ (lowL (f3.length : Int) 2).reverse ++ bytesL f3) = (out ++ [3] ++ (lowL (f3.length : Int) 2).reverse) ++ bytesL f3 by simp]
      generalize out ++ [3] ++ (lowL (f3.length : Int) 2).reverse = o at ho' ⊢
      clear ho hq hl3 hs p3 hlen
      induction f3 generalizing o with
      | nil => simp only [List.foldlM_nil, bytesL, List.append_nil]; exact Ev.now _
      | cons x t iht =>
        simp only [pureL, Bool.and_eq_true] at p4
        simp only [bytesL, List.length_append] at ho'
        simp only [List.foldlM_cons, bytesL]
        refine Ev.bind (ih x (by simp) (hsub x (by simp)) p4.1 o (by omega)) ?_
        rw [← List.append_assoc]
        exact iht (fun y hy => ih y (by simp [hy])) (fun y hy => hsub y (by simp [hy])) p4.2 _ (by simp only [List.length_append]; omega)
    · rw [if_neg h3] at hp
      cases hp
/-! codec.measure -/
def goodS (v : S43) (deep : Int) : Prop := pureS v = true ∧ (deepS v : Int) ≤ deep
structure Meas (v : S43) (room : Int) (deep : Int) (n : Int) (ok : Bool) : Prop where
  yes : ok = true → goodS v deep ∧ n = (bytesS v).length
  no : ok = false → n = 0
  fits : goodS v deep → ((bytesS v).length : Int) ≤ room → ok = true
theorem pure_ev (v : S43) (h2 : v.f2.length ≤ 100000) : codec_pure.f v.f0 v.f1 v.f2 v.f3 = some (if v.f0 = 1 then decide (v.f1 ≥ 0) && decide (v.f1 ≤ 4611686018427387904) && v.f2.isEmpty && v.f3.isEmpty else if v.f0 = 2 then decide (v.f1 = 0) && v.f3.isEmpty else if v.f0 = 3 then decide (v.f1 = 0) && v.f2.isEmpty && decide (v.f3.length ≤ 4096) else false) := by
  have e2 : ∀ l : List Int, ((l.length : Int) == 0) = l.isEmpty := by intro l; cases l <;> simp <;> omega
  have e3 : ∀ l : List S43, ((l.length : Int) == 0) = l.isEmpty := by intro l; cases l <;> simp <;> omega
  have d2 : ∀ l : List Int, ((l.length : Int) = 0) ↔ l.isEmpty = true := by intro l; rw [← e2]; simp
  unfold codec_pure.f
  by_cases h1 : v.f0 = 1
  · rw [if_pos h1, if_pos h1]
    by_cases a1 : v.f1 ≥ 0
    · rw [if_pos a1]
      by_cases a2 : v.f1 ≤ 4611686018427387904
      · rw [if_pos a2]
        by_cases a3 : (v.f2.length : Int) = 0
        · rw [if_pos a3, e3, (d2 v.f2).1 a3]; simp [a1, a2]
        · rw [if_neg a3, show v.f2.isEmpty = false by cases hh : v.f2.isEmpty; rfl; exact absurd ((d2 v.f2).2 hh) a3]; simp
      · rw [if_neg a2]; simp [a2]
    · rw [if_neg a1]; simp [a1]
  rw [if_neg h1, if_neg h1]
  by_cases h2' : v.f0 = 2
  · rw [if_pos h2', if_pos h2']
    by_cases a1 : v.f1 = 0
    · rw [if_pos a1, if_pos (by omega), e3]; simp [a1]
    · rw [if_neg a1]; simp [a1]
  rw [if_neg h2', if_neg h2']
  by_cases h3 : v.f0 = 3
  · rw [if_pos h3, if_pos h3]
    by_cases a1 : v.f1 = 0
    · rw [if_pos a1]
      by_cases a3 : (v.f2.length : Int) = 0
      · rw [if_pos a3, (d2 v.f2).1 a3]; simp [a1]; omega
      · rw [if_neg a3, show v.f2.isEmpty = false by cases hh : v.f2.isEmpty; rfl; exact absurd ((d2 v.f2).2 hh) a3]; simp
    · rw [if_neg a1]; simp [a1]
  · rw [if_neg h3, if_neg h3]
theorem pure_v (v : S43) (h2 : v.f2.length ≤ 100000) : codec_pure.f v.f0 v.f1 v.f2 v.f3 = some true ∧ (v.f0 = 3 → (pureS v = pureL v.f3)) ∧ (v.f0 ≠ 3 → pureS v = true) ∨ codec_pure.f v.f0 v.f1 v.f2 v.f3 = some false ∧ pureS v = false := by
  rw [pure_ev v h2]
  obtain ⟨f0, f1, f2, f3⟩ := v
  simp only [pureS]
  by_cases h1 : f0 = 1
  · subst h1
    simp only [if_true]
    cases hb : (decide (f1 ≥ 0) && decide (f1 ≤ 4611686018427387904) && f2.isEmpty && f3.isEmpty) <;> simp
  rw [if_neg h1, if_neg h1]
  by_cases h2 : f0 = 2
  · subst h2
    simp only [if_true]
    cases hb : (decide (f1 = 0) && f3.isEmpty) <;> simp
  rw [if_neg h2, if_neg h2]
  by_cases h3 : f0 = 3
  · subst h3
    simp only [if_true]
    cases hb : (decide (f1 = 0) && f2.isEmpty && decide (f3.length ≤ 4096)) <;> simp
  · rw [if_neg h3, if_neg h3]
    simp
theorem deepS_le (v : S43) (d : Int) : (deepS v : Int) ≤ d ↔ 0 ≤ d ∧ (v.f0 = 3 → 1 ≤ d ∧ (deepL v.f3 : Int) ≤ d - 1) := by
  obtain ⟨f0, f1, f2, f3⟩ := v
  simp only [deepS]
  by_cases h3 : f0 = 3
  · simp only [h3, if_true, forall_const]; omega
  · simp only [h3, if_false, false_implies, and_true]; omega
theorem num_len (f1 : Int) (h0 : 0 ≤ f1) (h1 : f1 ≤ 4611686018427387904) : (numB f1).length = 2 + (plainS f1).length := by
  rw [(plain_num f1 h0 h1).1]; simp [numB]; omega
theorem goodL_all (l : List S43) (d : Int) (h0 : 0 ≤ d) : (pureL l = true ∧ (deepL l : Int) ≤ d) ↔ ∀ x ∈ l, goodS x d := by
  induction l with
  | nil => simp [pureL, deepL, h0]
  | cons x t ih =>
    rw [List.forall_mem_cons, ← ih]
    simp only [pureL, deepL, Bool.and_eq_true, goodS]
    constructor
    · rintro ⟨⟨a, b⟩, c⟩; exact ⟨⟨a, by omega⟩, b, by omega⟩
    · rintro ⟨⟨a, b⟩, c, e⟩; exact ⟨⟨a, c⟩, by omega⟩
theorem measL (room d : Int) (l : List S43) (hl : l.length ≤ 100000) (hb : (bytesL l).length ≤ 20000000000) (hr0 : room ≤ 1048576) (hr : 0 ≤ room) (hd0 : 0 ≤ d) (hd1 : d ≤ 16)
    (ih : ∀ x ∈ l, ∀ r : Int, r ≤ 1048576 → -30000000000 ≤ r → ∃ n ok, Ev (fun k => codec_measure.f k x.f0 x.f1 x.f2 x.f3 r (d - 1)) (n, ok) ∧ Meas x r (d - 1) n ok) :
    ∀ (j i : Nat) (s : Int), i + j = l.length → 3 ≤ s → s + (bytesL (l.drop i)).length ≤ 20000000003 → ∃ n ok, Ev (fun k => codec_measure.l0 k room d s l (l.length : Int) i) (n, ok) ∧
      (ok = true → (∀ x ∈ l.drop i, goodS x (d - 1)) ∧ n = s + (bytesL (l.drop i)).length) ∧ (ok = false → n = 0) ∧ ((∀ x ∈ l.drop i, goodS x (d - 1)) → s + (bytesL (l.drop i)).length ≤ room → ok = true) := by
  intro j
  induction j with
  | zero =>
    intro i s hi h3 hs
    refine ⟨s, true, Ev.some_ (fun k => by simp only [codec_measure.l0]; rw [if_neg (by omega)]), ?_⟩
    rw [drop_end l i (by omega)]
    simp [bytesL]
  | succ j ihj =>
    intro i s hi h3 hs
    have hlt : i < l.length := by omega
    rw [ixS l i hlt] at hs ⊢
    simp only [bytesL, List.length_append] at hs ⊢
    have hm := memS l i hlt
    obtain ⟨n1, ok1, e1, m1⟩ := ih (rd_T43 l (i : Int)) hm (room - s) (by omega) (by omega)
    have ew : wrap64 (room - s) = room - s := w64i (by omega) (by omega)
    have ed : wrap64 (d - 1) = d - 1 := w64i (by omega) (by omega)
    have ei : wrap64 ((i : Int) + 1) = ((i + 1 : Nat) : Int) := ix_next i (by omega)
    have step : ∀ k, codec_measure.l0 (k + 1) room d s l (l.length : Int) i = (codec_measure.f k (rd_T43 l (i : Int)).f0 (rd_T43 l (i : Int)).f1 (rd_T43 l (i : Int)).f2 (rd_T43 l (i : Int)).f3 (room - s) (d - 1)).bind fun bt => if bt.2 = true then codec_measure.l0 k room d (wrap64 (s + bt.1)) l (l.length : Int) ((i + 1 : Nat) : Int) else some (0, false) := by
      intro k
      simp only [codec_measure.l0]
      simp only [if_pos (Int.ofNat_lt.2 hlt), if_pos (Int.natCast_nonneg i)]
      rw [ew, ed, ei]
    cases ok1 with
    | false =>
      refine ⟨0, false, Ev.step step (Ev.bind e1 (Ev.now (0, false))), fun h => (by cases h), fun _ => rfl, fun hg hle => ?_⟩
      have := m1.fits (hg _ (by simp)) (by omega)
      cases this
    | true =>
      obtain ⟨g1, rfl⟩ := m1.yes rfl
      have es : wrap64 (s + (bytesS (rd_T43 l (i : Int))).length) = s + (bytesS (rd_T43 l (i : Int))).length := w64i (by omega) (by omega)
      obtain ⟨n, ok, e2, y2, n2, f2⟩ := ihj (i + 1) (s + (bytesS (rd_T43 l (i : Int))).length) (by omega) (by omega) (by omega)
      refine ⟨n, ok, Ev.step step (Ev.bind e1 ?_), fun h => ⟨?_, ?_⟩, n2, fun hg hle => f2 (fun x hx => hg x (by simp [hx])) (by omega)⟩
      · simp only [if_true, es]
        exact e2
      · intro x hx
        rcases List.mem_cons.1 hx with rfl | hx
        · exact g1
        · exact (y2 h).1 x hx
      · rw [(y2 h).2]; omega
theorem meas_ev (v : S43) : Small v → ∀ (room d : Int), room ≤ 1048576 → -30000000000 ≤ room → -1 ≤ d → d ≤ 16 → ∃ n ok, Ev (fun k => codec_measure.f k v.f0 v.f1 v.f2 v.f3 room d) (n, ok) ∧ Meas v room d n ok := by
  refine S_ind (P := fun v => Small v → ∀ (room d : Int), room ≤ 1048576 → -30000000000 ≤ room → -1 ≤ d → d ≤ 16 → ∃ n ok, Ev (fun k => codec_measure.f k v.f0 v.f1 v.f2 v.f3 room d) (n, ok) ∧ Meas v room d n ok) (fun v ih hs room d hr1 hr0 hd0 hd1 => ?_) v
  have hbl := bytes_len v hs.ok
  have hcnt := hs.cnt
  have bad : ∀ b : Bool, codec_pure.f v.f0 v.f1 v.f2 v.f3 = some true → (if room < 0 then true else decide (d < 0)) = true → ∃ n ok, Ev (fun k => codec_measure.f k v.f0 v.f1 v.f2 v.f3 room d) (n, ok) ∧ Meas v room d n ok := by
    intro _ hp hb
    refine ⟨0, false, Ev.step (f := fun k => codec_measure.j0 k room d true v.f0 v.f1 v.f2 v.f3) (fun k => ?_) (Ev.some_ (fun k => by simp only [codec_measure.j0, if_true])), fun h => (by cases h), fun _ => rfl, fun hg hle => ?_⟩
    · simp only [codec_measure.f, hp, Option.bind_some, if_true]
      by_cases hr : room < 0
      · rw [if_pos hr]
      · rw [if_neg hr] at hb ⊢; rw [hb]
    · by_cases hr : room < 0
      · omega
      · rw [if_neg hr] at hb
        have hb := of_decide_eq_true hb
        have := hg.2
        omega
  rcases pure_v v hs.len2 with ⟨hp, hp3, hpn⟩ | ⟨hp, hpS⟩
  · by_cases hb : (if room < 0 then true else decide (d < 0)) = true
    · exact bad true hp hb
    have hr : ¬ room < 0 := fun h => hb (by rw [if_pos h])
    have hd : ¬ d < 0 := fun h => hb (by rw [if_neg hr]; exact decide_eq_true h)
    have st : ∀ (g : Nat → Option (Int × Bool)), (∀ k, codec_measure.j0 (k + 1) room d false v.f0 v.f1 v.f2 v.f3 = g k) → ∀ r, Ev g r → Ev (fun k => codec_measure.f k v.f0 v.f1 v.f2 v.f3 room d) r := by
      intro g hg r e
      refine Ev.step (f := fun k => codec_measure.j0 k room d false v.f0 v.f1 v.f2 v.f3) (fun k => ?_) (Ev.step (f := g) hg e)
      simp only [codec_measure.f, hp, Option.bind_some, if_true]
      rw [if_neg hr, decide_eq_false hd]
    obtain ⟨f0, f1, f2, f3⟩ := v
    simp only at hp hp3 hpn st ih
    by_cases h1 : f0 = 1
    · subst h1
      have hpS := hpn (by decide)
      have hpS2 := hpS
      simp only [pureS, if_true, Bool.and_eq_true, decide_eq_true_eq] at hpS2
      have hn := num_len f1 hpS2.1.1.1 hpS2.1.1.2
      have hl := plainS_len f1
      refine ⟨2 + (plainS f1).length, true, st (fun k => (codec_plain.f k f1).bind fun t => some (wrap64 (2 + (t.length : Int)), true)) (fun k => by simp [codec_measure.j0]) _ ?_, fun _ => ⟨⟨hpS, (deepS_le _ _).2 ⟨by omega, fun h => by cases h⟩⟩, ?_⟩, fun h => (by cases h), fun _ _ => rfl⟩
      · refine Ev.bind (a := plainS f1) (Ev.fin 20 (fun k hk => plain_ev f1 k hk)) ?_
        rw [w64i (by omega) (by omega)]
        exact Ev.now _
      · simp only [bytesS, if_true]
        rw [hn]
        omega
    by_cases h2 : f0 = 2
    · subst h2
      have hpS := hpn (by decide)
      have hl2 := hs.len2
      simp only at hl2
      refine ⟨4 + f2.length, true, st (fun k => some (4 + f2.length, true)) (fun k => by simp only [codec_measure.j0]; simp; rw [w64i (by omega) (by omega)]) _ (Ev.now _), fun _ => ⟨⟨hpS, (deepS_le _ _).2 ⟨by omega, fun h => by cases h⟩⟩, ?_⟩, fun h => (by cases h), fun _ _ => rfl⟩
      simp [bytesS, lowL_length]
      omega
    by_cases h3 : f0 = 3
    · subst h3
      have e3 := hp3 rfl
      by_cases hd0 : d = 0
      · subst hd0
        refine ⟨0, false, st (fun k => some (0, false)) (fun k => by simp [codec_measure.j0]) _ (Ev.now _), fun h => (by cases h), fun _ => rfl, fun hg hle => ?_⟩
        have := ((deepS_le _ _).1 hg.2).2 rfl
        omega
      · have hsub := hs.sub
        have hl3 := hs.len3
        simp only at hsub hl3
        have hb3 : (bytesL f3).length ≤ 20000000000 := by
          simp only [bytesS] at hbl
          simp at hbl
          omega
        obtain ⟨n, ok, e, y, no, fi⟩ := measL room d f3 hl3 hb3 hr1 (by omega) (by omega) hd1 (fun x hx r h1 h2 => ih x hx (hsub x hx) r (d - 1) h1 h2 (by omega) (by omega)) f3.length 0 3 (by omega) (by omega) (by simp; omega)
        simp only [List.drop_zero] at y fi
        have hlen : (bytesS (⟨3, f1, f2, f3⟩ : S43)).length = 3 + (bytesL f3).length := by simp [bytesS, lowL_length]; omega
        have hgood : goodS (⟨3, f1, f2, f3⟩ : S43) d ↔ ∀ x ∈ f3, goodS x (d - 1) := by
          rw [← goodL_all f3 (d - 1) (by omega)]
          unfold goodS
          rw [e3, deepS_le]
          simp only [forall_const]
          constructor
          · rintro ⟨a, _, _, b⟩; exact ⟨a, b⟩
          · rintro ⟨a, b⟩; exact ⟨a, by omega, by omega, b⟩
        refine ⟨n, ok, st (fun k => codec_measure.l0 k room d 3 f3 (f3.length : Int) 0) (fun k => by simp [codec_measure.j0, hd0]) _ e, fun h => ⟨hgood.2 (y h).1, ?_⟩, no, fun hg hle => fi (hgood.1 hg) (by rw [hlen] at hle; omega)⟩
        rw [hlen, (y h).2]
        omega
    · exfalso
      have := hpn h3
      simp [pureS, h1, h2, h3] at this
  · refine ⟨0, false, Ev.step (f := fun k => codec_measure.j0 k room d true v.f0 v.f1 v.f2 v.f3) (fun k => by simp [codec_measure.f, hp]) (Ev.some_ (fun k => by simp only [codec_measure.j0, if_true])), fun h => (by cases h), fun _ => rfl, fun hg hle => ?_⟩
    have := hg.1
    rw [hpS] at this
    cases this

/-! ### plain laws: are two lists one? -/
theorem rd_get (l : List Int) (i : Nat) (h : i < l.length) : rd l (i : Int) = l[i] := by
  unfold rd
  simp [List.getD, List.getElem?_eq_getElem h]
theorem same_l0 (a b : List Int) (hl : a.length = b.length) (hm : a.length ≤ 4611686018427387904) : ∀ (d k i : Nat), i + d = a.length → d < k →
    bastilleref01_Same.l0 k a b (i : Int) = some (decide (a.drop i = b.drop i)) := by
  intro d
  induction d with
  | zero =>
    intro k i h1 hk
    obtain ⟨k, rfl, _⟩ := rounds_ex (m := 0) (by omega : 0 + 1 ≤ k)
    simp only [bastilleref01_Same.l0]
    rw [if_neg (by omega), List.drop_of_length_le (by omega), List.drop_of_length_le (by omega)]
    simp
  | succ d ih =>
    intro k i h1 hk
    obtain ⟨k, rfl, hk'⟩ := rounds_ex (m := d + 1) (by omega : d + 1 + 1 ≤ k)
    simp only [bastilleref01_Same.l0]
    rw [if_pos (by omega), if_pos (by omega), if_pos (by omega), rd_get a i (by omega), rd_get b i (by omega), w64i (by omega) (by omega)]
    rw [List.drop_eq_getElem_cons (show i < a.length by omega), List.drop_eq_getElem_cons (show i < b.length by omega)]
    have := ih k (i + 1) (by omega) (by omega)
    rw [show (((i + 1 : Nat)) : Int) = (i : Int) + 1 by omega] at this
    by_cases h : a[i] = b[i]
    · rw [if_pos h, this]
      congr 1
      exact decide_eq_decide.mpr (by rw [h]; exact ⟨fun e => by rw [e], fun e => (List.cons.inj e).2⟩)
    · rw [if_neg h]
      exact congrArg some (decide_eq_false (fun e => h (List.cons.inj e).1)).symm
theorem same_ev (a b : List Int) (hm : a.length ≤ 4611686018427387904) (k : Nat) (hk : a.length + 1 ≤ k) : bastilleref01_Same.f k a b = some (decide (a = b)) := by
  unfold bastilleref01_Same.f
  by_cases h : a.length = b.length
  · rw [if_pos (by omega)]
    have := same_l0 a b h hm a.length k 0 (by omega) (by omega)
    simpa using this
  · rw [if_neg (by omega)]
    simp
    intro e
    exact h (by rw [e])
theorem same_refl (a : List Int) (hm : a.length ≤ 4611686018427387904) (k : Nat) (hk : a.length + 1 ≤ k) : bastilleref01_Same.f k a a = some true := by
  rw [same_ev a a hm k hk]; simp

/-! the bound on what is tried -/
def okG (l : List S43) : Prop := l.length ≤ maxLen ∧ ∀ y ∈ l, g43 y
theorem g_f3 {x : S43} (h : g43 x) : okG x.f3 := by cases h; rename_i a b c d e f; exact ⟨e, f⟩
theorem partsL (d : Nat) (hd : d ≤ 30) (l : List S43) (hl : okG l) (ih : ∀ x ∈ l, ∀ n : Int, 0 ≤ n → n ≤ 200 → ∃ r : Int, Ev (fun k => bastillelaw02_parts.f k x.f0 x.f1 x.f2 x.f3 n (d : Int)) r ∧ -1 ≤ r ∧ r ≤ n ∧ (0 ≤ r → r + cntS x ≤ n ∧ okS x = true)) :
    ∀ (j i : Nat) (n : Int), i + j = l.length → -1 ≤ n → n ≤ 200 → ∃ r : Int, Ev (fun k => bastillelaw02_parts.l0 k n ((d + 1 : Nat) : Int) l (l.length : Int) (i : Int)) r ∧ -1 ≤ r ∧ r ≤ n ∧ (0 ≤ r → r + cntL (l.drop i) ≤ n ∧ okL (l.drop i) = true) := by
  have hm : l.length ≤ 9223372036854775807 := hl.1
  intro j
  induction j with
  | zero =>
    intro i n hi h0 h1
    refine ⟨n, Ev.some_ (fun k => ?_), h0, by omega, ?_⟩
    · simp only [bastillelaw02_parts.l0]
      rw [if_neg (by omega)]
    · rw [drop_end l i (by omega)]
      simp [cntL, okL]
  | succ j ihj =>
    intro i n hi h0 h1
    have hlt : i < l.length := by omega
    rw [ixS l i hlt]
    have e0 : ∀ k, bastillelaw02_parts.l0 (k + 1) n ((d + 1 : Nat) : Int) l (l.length : Int) (i : Int) = if n < 0 then some (-1) else (bastillelaw02_parts.f k (rd_T43 l (i : Int)).f0 (rd_T43 l (i : Int)).f1 (rd_T43 l (i : Int)).f2 (rd_T43 l (i : Int)).f3 n (d : Int)).bind fun t => bastillelaw02_parts.l0 k t ((d + 1 : Nat) : Int) l (l.length : Int) ((i + 1 : Nat) : Int) := by
      intro k
      simp only [bastillelaw02_parts.l0]
      simp only [if_pos (Int.ofNat_lt.2 hlt), if_pos (Int.natCast_nonneg i)]
      rw [ix_next i (by omega), show wrap64 (((d + 1 : Nat) : Int) - 1) = (d : Int) by rw [w64i (by omega) (by omega)]; omega]
    by_cases hn : n < 0
    · exact ⟨-1, Ev.some_ (fun k => by rw [e0, if_pos hn]), by omega, by omega, fun h => by omega⟩
    · obtain ⟨t, et, t0, t1, t2⟩ := ih _ (memS l i hlt) n (by omega) h1
      obtain ⟨r, er, r0, r1, r2⟩ := ihj (i + 1) t (by omega) t0 (by omega)
      refine ⟨r, Ev.step (f := fun k => (bastillelaw02_parts.f k (rd_T43 l (i : Int)).f0 (rd_T43 l (i : Int)).f1 (rd_T43 l (i : Int)).f2 (rd_T43 l (i : Int)).f3 n (d : Int)).bind fun t => bastillelaw02_parts.l0 k t ((d + 1 : Nat) : Int) l (l.length : Int) ((i + 1 : Nat) : Int)) (fun k => by rw [e0, if_neg hn]) (Ev.bind et er), r0, by omega, fun h => ?_⟩
      obtain ⟨a1, a2⟩ := r2 h
      obtain ⟨b1, b2⟩ := t2 (by omega)
      simp only [cntL, okL, a2, b2, Bool.and_true]
      exact ⟨by omega, trivial⟩
theorem parts_ev : ∀ (d : Nat), d ≤ 30 → ∀ (v : S43), okG v.f3 → ∀ n : Int, 0 ≤ n → n ≤ 200 → ∃ r : Int, Ev (fun k => bastillelaw02_parts.f k v.f0 v.f1 v.f2 v.f3 n (d : Int)) r ∧ -1 ≤ r ∧ r ≤ n ∧ (0 ≤ r → r + cntS v ≤ n ∧ okS v = true) := by
  intro d
  induction d with
  | zero =>
    intro _ v hv n h0 h1
    refine ⟨-1, Ev.step (f := fun k => bastillelaw02_parts.j0 k (wrap64 (n - 1)) ((0 : Nat) : Int) true v.f0 v.f1 v.f2 v.f3) (fun k => by simp [bastillelaw02_parts.f]) (Ev.some_ (fun k => by simp [bastillelaw02_parts.j0])), by omega, by omega, fun h => by omega⟩
  | succ d ih =>
    intro hd v hv n h0 h1
    have e0 : ∀ k, bastillelaw02_parts.f (k + 1) v.f0 v.f1 v.f2 v.f3 n ((d + 1 : Nat) : Int) = bastillelaw02_parts.j0 k (n - 1) ((d + 1 : Nat) : Int) (decide ((v.f2.length : Int) > 2000)) v.f0 v.f1 v.f2 v.f3 := by
      intro k
      simp only [bastillelaw02_parts.f]
      rw [if_neg (by omega), w64i (by omega) (by omega)]
    by_cases hb : (v.f2.length : Int) > 2000
    · refine ⟨-1, Ev.step e0 (Ev.some_ (fun k => by rw [decide_eq_true hb]; simp [bastillelaw02_parts.j0])), by omega, by omega, fun h => by omega⟩
    · obtain ⟨r, er, r0, r1, r2⟩ := partsL d (by omega) v.f3 hv (fun x hx => ih (by omega) x (g_f3 (hv.2 x hx))) v.f3.length 0 (n - 1) (by omega) (by omega) (by omega)
      rw [List.drop_zero] at r2
      refine ⟨r, Ev.step e0 (Ev.step (f := fun k => bastillelaw02_parts.l0 k (n - 1) ((d + 1 : Nat) : Int) v.f3 (v.f3.length : Int) ((0 : Nat) : Int)) (fun k => by rw [decide_eq_false hb]; simp [bastillelaw02_parts.j0]) er), r0, by omega, fun h => ?_⟩
      obtain ⟨a1, a2⟩ := r2 h
      have := cnt_f3 v
      refine ⟨by omega, ?_⟩
      obtain ⟨f0, f1, f2, f3⟩ := v
      simp only at a2 hb
      simp only [okS, a2, Bool.and_true, decide_eq_true_eq]
      omega
theorem few_ev (v : S43) (hv : okG v.f3) : ∃ b, Ev (fun k => bastillelaw02_Few.f k v.f0 v.f1 v.f2 v.f3) b ∧ (b = true → Small v) := by
  obtain ⟨r, er, r0, r1, r2⟩ := parts_ev 30 (by omega) v hv 200 (by omega) (by omega)
  refine ⟨decide (r ≥ 0), ?_, fun h => ?_⟩
  · unfold bastillelaw02_Few.f
    exact Ev.bind er (Ev.now _)
  · obtain ⟨a, b⟩ := r2 (of_decide_eq_true h)
    exact ⟨by omega, b⟩
theorem awake_ev : Ev (fun k => bastillelaw02_awake.f k) true := Ev.of (fun k => bastillelaw02_awake.mono k) (k := 30) (by decide +kernel)

def rightS (v : S43) : Bool := pureS v && decide (deepS v ≤ 16) && decide ((bytesS v).length ≤ 1048576)
theorem size_ev (v : S43) (hs : Small v) : Ev (fun k => codec_Size.f k v.f0 v.f1 v.f2 v.f3) (if rightS v = true then ((bytesS v).length : Int) else 0, rightS v) := by
  obtain ⟨n, ok, e, m⟩ := meas_ev v hs 1048576 16 (by omega) (by omega) (by omega) (by omega)
  unfold codec_Size.f
  refine Ev.bind e ?_
  cases ok with
  | false =>
    have hr : rightS v = false := by
      cases h : rightS v with
      | false => rfl
      | true =>
        simp only [rightS, Bool.and_eq_true, decide_eq_true_eq] at h
        have := m.fits ⟨h.1.1, by omega⟩ (by omega)
        cases this
    rw [hr]
    exact Ev.now _
  | true =>
    obtain ⟨⟨g1, g2⟩, hn⟩ := m.yes rfl
    simp only [if_true]
    by_cases hb : n > 1048576
    · rw [if_pos hb, show rightS v = false by simp [rightS]; omega]
      exact Ev.now _
    · rw [if_neg hb, show rightS v = true by simp [rightS, g1]; omega, hn]
      exact Ev.now _
theorem encode_ev (v : S43) (hs : Small v) : Ev (fun k => codec_Encode.f k v.f0 v.f1 v.f2 v.f3) (if rightS v = true then (bytesS v, 0) else ([], 2)) := by
  unfold codec_Encode.f
  refine Ev.bind (size_ev v hs) ?_
  cases hr : rightS v with
  | false => exact Ev.now _
  | true =>
    simp only [if_true]
    simp only [rightS, Bool.and_eq_true, decide_eq_true_eq] at hr
    refine Ev.bind (put_ev v hs hr.1.1 [] (by simp; omega)) (Ev.now _)

/-! ### plain laws: bytes as numbers -/
def ByteOk (b : List Int) : Prop := ∀ x ∈ b, 0 ≤ x ∧ x ≤ 255
theorem byteOk_of {b : List Int} (h : ∀ x ∈ b, (Lit.int .u8 x).wf = true) : ByteOk b := by
  intro x hx
  have := h x hx
  simp [Lit.wf, IntKind.min, IntKind.max, IntKind.signed, IntKind.bits] at this
  omega
def numA (acc : Int) (b : List Int) : Int := b.foldl (fun x c => 256 * x + c) acc
def numL (b : List Int) : Int := numA 0 b
theorem numA_ge (b : List Int) : ∀ acc, 0 ≤ acc → ByteOk b → acc ≤ numA acc b := by
  induction b with
  | nil => intro acc _ _; exact Int.le_refl _
  | cons c t ih =>
    intro acc h0 hb
    have hc := hb c (by simp)
    have := ih (256 * acc + c) (by omega) (fun x hx => hb x (by simp [hx]))
    show acc ≤ numA (256 * acc + c) t
    omega
def getS (b : List Int) : Int × Int := if b.length = 0 then (0, 10) else if b.length > 8 then (0, 2) else if numL b > 4611686018427387904 then (0, 11) else (numL b, 0)
theorem pow7 (i : Nat) (h : i ≤ 7) : (256 : Int) ^ i ≤ 72057594037927936 := by
  obtain rfl | rfl | rfl | rfl | rfl | rfl | rfl | rfl : i = 0 ∨ i = 1 ∨ i = 2 ∨ i = 3 ∨ i = 4 ∨ i = 5 ∨ i = 6 ∨ i = 7 := by omega
  all_goals decide
theorem or_byte (a c : Int) (h0 : 0 ≤ a) (h1 : a ≤ 72057594037927935) (h2 : 0 ≤ c) (h3 : c ≤ 255) : Go.bits .or .u64 (IntKind.u64.wrap (a * 256)) (IntKind.u64.wrap c) = 256 * a + c := by
  obtain ⟨a, rfl⟩ := Int.eq_ofNat_of_zero_le h0
  obtain ⟨c, rfl⟩ := Int.eq_ofNat_of_zero_le h2
  rw [u64i (by omega) (by omega), u64i (by omega) (by omega)]
  have e : ((a : Int) * 256) = ((a * 256 : Nat) : Int) := by omega
  rw [e]
  refine (u64_or_nat (a * 256) c (by omega) (by omega)).trans ?_
  have := Nat.two_pow_add_eq_or_of_lt (i := 8) (b := c) (by omega) a
  rw [show a * 256 = 2 ^ 8 * a by omega, ← this]
  omega
theorem byteOk_reverse {b : List Int} (h : ByteOk b) : ByteOk b.reverse := fun x hx => h x (List.mem_reverse.1 hx)

/-! ### plain laws: the number of bytes -/
theorem word_get_l0 (b : List Int) (hb : ByteOk b) (hl : b.length ≤ 8) : ∀ (d k i : Nat) (acc : Int), i + d = b.length → 0 ≤ acc → acc < 256 ^ i → d < k →
    word_Get.l0 k acc b (b.length : Int) (i : Int) = some (if numA acc (b.drop i) > 4611686018427387904 then (0, 11) else (wrap64 (numA acc (b.drop i)), 0)) := by
  intro d
  induction d with
  | zero =>
    intro k i acc h1 h2 h3 hk
    obtain ⟨k, rfl, _⟩ := rounds_ex (m := 0) (by omega : 0 + 1 ≤ k)
    simp only [word_Get.l0]
    rw [if_neg (by omega), List.drop_of_length_le (by omega), show numA acc [] = acc from rfl]
    split <;> rfl
  | succ d ih =>
    intro k i acc h1 h2 h3 hk
    obtain ⟨k, rfl, hk'⟩ := rounds_ex (m := d + 1) (by omega : d + 1 + 1 ≤ k)
    have hc := hb b[i] (List.getElem_mem (by omega))
    have hp := pow7 i (by omega)
    simp only [word_Get.l0]
    rw [if_pos (by omega), if_pos (by omega), if_pos (by omega), rd_get b i (by omega), or_byte acc b[i] h2 (by omega) hc.1 hc.2, w64i (by omega) (by omega)]
    have := ih k (i + 1) (256 * acc + b[i]) (by omega) (by omega) (by rw [Int.pow_succ]; omega) (by omega)
    rw [show (((i + 1 : Nat)) : Int) = (i : Int) + 1 by omega] at this
    rw [this, List.drop_eq_getElem_cons (show i < b.length by omega)]
    rfl
theorem word_get (b : List Int) (hb : ByteOk b) (k : Nat) (hk : 10 ≤ k) : word_Get.f k b = some (getS b) := by
  unfold word_Get.f getS
  by_cases h1 : b.length = 0
  · rw [if_pos (by omega), if_pos h1]
  by_cases h2 : b.length > 8
  · rw [if_neg (by omega), if_pos (by omega), if_neg h1, if_pos h2]
  rw [if_neg (by omega), if_neg (by omega), if_neg h1, if_neg h2]
  have := word_get_l0 b hb (by omega) b.length k 0 0 (by omega) (by omega) (by decide) (by omega)
  rw [show ((0 : Nat) : Int) = 0 by rfl] at this
  rw [this, List.drop_zero]
  have h3 := numA_ge b 0 (by omega) hb
  show some (if numL b > _ then _ else _) = _
  have h4 : 0 ≤ numL b := h3
  by_cases h5 : numL b > 4611686018427387904
  · rw [if_pos h5, if_pos h5]
  · rw [if_neg h5, if_neg h5]
    show some (wrap64 (numL b), (0 : Int)) = _
    rw [w64i (by omega) (by omega)]

/-! ### plain laws: there and back -/
theorem numA_snoc (acc : Int) (l : List Int) (c : Int) : numA acc (l ++ [c]) = 256 * numA acc l + c := by simp [numA, List.foldl_append]
theorem num_low : ∀ (s : Nat) (n : Int), 0 ≤ n → n / 2 ^ (8 * s) = 0 → numL (lowL n s).reverse = n := by
  intro s
  induction s with
  | zero => intro n h0 h1; simp at h1; subst h1; rfl
  | succ s ih =>
    intro n h0 h1
    rw [lowL_succ, List.reverse_cons]
    unfold numL
    rw [numA_snoc]
    have := ih (n / 256) (by omega) (by rw [Int.ediv_ediv_of_nonneg (by decide), ← h1, show (2 : Int) ^ (8 * (s + 1)) = 256 * 2 ^ (8 * s) by rw [show 8 * (s + 1) = 8 * s + 8 by omega, Int.pow_add]; omega])
    unfold numL at this
    rw [this]
    omega
theorem low_num (r : List Int) : ByteOk r → lowL (numL r.reverse) r.length = r := by
  induction r with
  | nil => intro _; rfl
  | cons c t ih =>
    intro hb
    have hc := hb c (by simp)
    rw [List.length_cons, lowL_succ, List.reverse_cons]
    unfold numL
    rw [numA_snoc]
    rw [show (256 * numA 0 t.reverse + c) % 256 = c by omega, show (256 * numA 0 t.reverse + c) / 256 = numA 0 t.reverse by omega]
    rw [show numA 0 t.reverse = numL t.reverse from rfl, ih (fun x hx => hb x (by simp [hx]))]
theorem num_lt (r : List Int) : ByteOk r → 0 ≤ numL r.reverse ∧ numL r.reverse < 2 ^ (8 * r.length) := by
  induction r with
  | nil => intro _; exact ⟨by decide, by decide⟩
  | cons c t ih =>
    intro hb
    have hc := hb c (by simp)
    have := ih (fun x hx => hb x (by simp [hx]))
    rw [List.reverse_cons]
    unfold numL at *
    rw [numA_snoc, List.length_cons, show (2 : Int) ^ (8 * (t.length + 1)) = 256 * 2 ^ (8 * t.length) by rw [show 8 * (t.length + 1) = 8 * t.length + 8 by omega, Int.pow_add]; omega]
    omega
theorem byteOk_lowL (n : Int) (s : Nat) : ByteOk (lowL n s) := by
  intro x hx
  simp only [lowL, List.mem_map] at hx
  obtain ⟨j, _, rfl⟩ := hx
  unfold byteAt
  omega

/-! ### the decoder, plainly -/
def dNum : List Int → Except Int (Int × List Int)
  | [] => .error 10
  | n :: b => if n > 8 then .error 11 else if b.length < n.toNat then .error 10 else if n = 0 then .ok (0, b) else
      if numL (b.take n.toNat) > 4611686018427387904 then .error 11 else if rd (b.take n.toNat) 0 = 0 then .error 11 else .ok (numL (b.take n.toNat), b.drop n.toNat)
def dRaw (b : List Int) : Except Int (List Int × List Int) :=
  if b.length < 3 then .error 10 else if (b.drop 3).length < (numL (b.take 3)).toNat then .error 10 else .ok ((b.drop 3).take (numL (b.take 3)).toNat, (b.drop 3).drop (numL (b.take 3)).toNat)
def dList (g : List Int → Except Int (S43 × List Int)) : Nat → List Int → Except Int (List S43 × List Int)
  | 0, b => .ok ([], b)
  | m + 1, b => (g b).bind fun x => (dList g m x.2).bind fun y => .ok (x.1 :: y.1, y.2)
def dStep (g : Option (List Int → Except Int (S43 × List Int))) : List Int → Except Int (S43 × List Int)
  | [] => .error 10
  | k :: b => if k = 1 then (dNum b).bind fun x => .ok (⟨1, x.1, [], []⟩, x.2) else if k = 2 then (dRaw b).bind fun x => .ok (⟨2, 0, x.1, []⟩, x.2)
      else if k = 3 then (if b.length < 2 then .error 10 else if numL (b.take 2) > 4096 then .error 11 else match g with
        | none => .error 11
        | some g => (dList g (numL (b.take 2)).toNat (b.drop 2)).bind fun x => .ok (⟨3, 0, [], x.1⟩, x.2))
      else .error 11
def dV : Nat → List Int → Except Int (S43 × List Int)
  | 0 => dStep none
  | d + 1 => dStep (some (dV d))
theorem pure2 (f1 : Int) (f2 : List Int) (f3 : List S43) : pureS ⟨2, f1, f2, f3⟩ = (decide (f1 = 0) && f3.isEmpty) := by simp [pureS]
theorem pure3 (f1 : Int) (f2 : List Int) (f3 : List S43) : pureS ⟨3, f1, f2, f3⟩ = (decide (f1 = 0) && f2.isEmpty && decide (f3.length ≤ 4096) && pureL f3) := by simp [pureS]
theorem bytes2 (f1 : Int) (f2 : List Int) (f3 : List S43) : bytesS ⟨2, f1, f2, f3⟩ = [2] ++ (lowL f2.length 3).reverse ++ f2 := by simp [bytesS]
theorem bytes3 (f1 : Int) (f2 : List Int) (f3 : List S43) : bytesS ⟨3, f1, f2, f3⟩ = [3] ++ (lowL f3.length 2).reverse ++ bytesL f3 := by simp [bytesS]
theorem deep3 (f1 : Int) (f2 : List Int) (f3 : List S43) : deepS ⟨3, f1, f2, f3⟩ = 1 + deepL f3 := by simp [deepS]
theorem dStep2 (g : Option (List Int → Except Int (S43 × List Int))) (b : List Int) : dStep g (2 :: b) = (dRaw b).bind fun x => .ok (⟨2, 0, x.1, []⟩, x.2) := rfl
theorem dStep3 (g : Option (List Int → Except Int (S43 × List Int))) (b : List Int) : dStep g (3 :: b) = (if b.length < 2 then .error 10 else if numL (b.take 2) > 4096 then .error 11 else match g with
        | none => .error 11
        | some g => (dList g (numL (b.take 2)).toNat (b.drop 2)).bind fun x => .ok (⟨3, 0, [], x.1⟩, x.2)) := rfl
theorem ex_bind {α β : Type} {x : Except Int α} {f : α → Except Int β} {r : β} (h : x.bind f = .ok r) : ∃ a, x = .ok a ∧ f a = .ok r := by
  cases x with
  | error e => cases h
  | ok a => exact ⟨a, rfl, h⟩
theorem byteOk_take {b : List Int} (h : ByteOk b) (n : Nat) : ByteOk (b.take n) := fun x hx => h x (List.mem_of_mem_take hx)
theorem byteOk_drop {b : List Int} (h : ByteOk b) (n : Nat) : ByteOk (b.drop n) := fun x hx => h x (List.mem_of_mem_drop hx)
theorem byteOk_right {p b : List Int} (h : ByteOk (p ++ b)) : ByteOk b := fun x hx => h x (List.mem_append_right _ hx)
theorem numL_nonneg {b : List Int} (h : ByteOk b) : 0 ≤ numL b := numA_ge b 0 (Int.le_refl _) h
theorem digs_zero : ∀ m, digs m 0 = 0
  | 0 => rfl
  | m + 1 => by simp [digs]
theorem numL_pos : ∀ (t : List Int), ByteOk t → t ≠ [] → rd t 0 ≠ 0 → 0 < numL t := by
  intro t ht hne h0
  cases t with
  | nil => exact absurd rfl hne
  | cons c t =>
    have hc := ht c (by simp)
    have e : rd (c :: t) 0 = c := rfl
    rw [e] at h0
    have := numA_ge t (256 * 0 + c) (by omega) (fun x hx => ht x (by simp [hx]))
    show 0 < numA (256 * 0 + c) t
    omega
theorem digs_of (r : List Int) : ∀ m, ByteOk r → r.length ≤ m → rd r.reverse 0 ≠ 0 → digs m (numL r.reverse) = r.length := by
  induction r with
  | nil => intro m _ _ _; exact digs_zero m
  | cons c t ih =>
    intro m hb hm h0
    have hc := hb c (by simp)
    have ht : ByteOk t := fun x hx => hb x (by simp [hx])
    obtain ⟨m, rfl⟩ : ∃ q, m = q + 1 := ⟨m - 1, by simp at hm; omega⟩
    have hm' : t.length ≤ m := by simp at hm; omega
    rw [List.reverse_cons] at h0 ⊢
    have e : numL (t.reverse ++ [c]) = 256 * numL t.reverse + c := numA_snoc _ _ _
    rw [e]
    by_cases hz : t = []
    · subst hz
      have h0' : c ≠ 0 := h0
      have e0 : numL ([] : List Int).reverse = 0 := rfl
      rw [e0]
      simp only [digs]
      rw [if_pos (by omega), show (256 * 0 + c) / 256 = 0 by omega, digs_zero]
      rfl
    · have hr0 : rd (t.reverse ++ [c]) 0 = rd t.reverse 0 := by
        have : t.reverse ≠ [] := by simpa using hz
        cases hh : t.reverse with
        | nil => exact absurd hh this
        | cons y ys => rfl
      rw [hr0] at h0
      have hp := numL_pos t.reverse (byteOk_reverse ht) (by simpa using hz) h0
      simp only [digs]
      rw [if_pos (by omega), show (256 * numL t.reverse + c) / 256 = numL t.reverse by omega, ih m ht hm' h0]
      rfl
theorem dNum_ok {b : List Int} (hb : ByteOk b) {n : Int} {r : List Int} (h : dNum b = .ok (n, r)) : 1 :: b = numB n ++ r ∧ 0 ≤ n ∧ n ≤ 4611686018427387904 := by
  cases b with
  | nil => cases h
  | cons s b =>
    have hs := hb s (by simp)
    have hb' : ByteOk b := fun x hx => hb x (by simp [hx])
    simp only [dNum] at h
    split at h
    · cases h
    split at h
    · cases h
    rename_i h8 hlen
    split at h
    · rename_i h0
      cases h
      subst h0
      refine ⟨?_, by omega, by omega⟩
      simp [numB, digs_zero, lowL]
    rename_i h0
    split at h
    · cases h
    split at h
    · cases h
    rename_i htop hhd
    cases h
    have ho := byteOk_take hb' s.toNat
    have hl : (b.take s.toNat).length = s.toNat := by rw [List.length_take]; omega
    have e1 := digs_of (b.take s.toNat).reverse 8 (byteOk_reverse ho) (by rw [List.length_reverse, hl]; omega) (by rw [List.reverse_reverse]; exact hhd)
    have e2 := low_num (b.take s.toNat).reverse (byteOk_reverse ho)
    rw [List.reverse_reverse, List.length_reverse, hl] at e1 e2
    refine ⟨?_, numL_nonneg ho, by omega⟩
    unfold numB
    rw [e1, e2, List.reverse_reverse]
    simp only [List.cons_append, List.take_append_drop]
    rw [show ((s.toNat : Nat) : Int) = s by omega]
theorem dRaw_ok {b : List Int} (hb : ByteOk b) {o r : List Int} (h : dRaw b = .ok (o, r)) : 2 :: b = [2] ++ (lowL (o.length : Int) 3).reverse ++ o ++ r := by
  unfold dRaw at h
  split at h
  · cases h
  split at h
  · cases h
  rename_i h3 hlen
  cases h
  have ho := byteOk_take hb 3
  have hn := numL_nonneg ho
  have hl : ((b.drop 3).take (numL (b.take 3)).toNat).length = (numL (b.take 3)).toNat := by rw [List.length_take]; omega
  have e2 := low_num (b.take 3).reverse (byteOk_reverse ho)
  rw [List.reverse_reverse, List.length_reverse, show (b.take 3).length = 3 by rw [List.length_take]; omega] at e2
  rw [hl, show (((numL (b.take 3)).toNat : Nat) : Int) = numL (b.take 3) by omega, e2, List.reverse_reverse]
  simp only [List.append_assoc, List.take_append_drop, List.singleton_append, List.cons_append, List.nil_append]
theorem dList_ok {g : List Int → Except Int (S43 × List Int)} {P : S43 → Prop} (hg : ∀ b v r, ByteOk b → g b = .ok (v, r) → b = bytesS v ++ r ∧ P v) :
    ∀ (m : Nat) (b : List Int) (l : List S43) (r : List Int), ByteOk b → dList g m b = .ok (l, r) → b = bytesL l ++ r ∧ l.length = m ∧ ∀ x ∈ l, P x
  | 0, b, l, r, _, h => by
    cases h
    exact ⟨rfl, rfl, by simp⟩
  | m + 1, b, l, r, hb, h => by
    obtain ⟨⟨v, b1⟩, h1, h⟩ := ex_bind h
    obtain ⟨⟨t, b2⟩, h2, h⟩ := ex_bind h
    cases h
    obtain ⟨rfl, p1⟩ := hg _ _ _ hb h1
    obtain ⟨e2, l2, p2⟩ := dList_ok hg m b1 t b2 (byteOk_right hb) h2
    refine ⟨?_, by simp [l2], fun x hx => ?_⟩
    · rw [e2]; simp [bytesL]
    · rcases List.mem_cons.1 hx with rfl | hx
      · exact p1
      · exact p2 x hx
def pureDeep (d : Nat) (v : S43) : Prop := pureS v = true ∧ deepS v ≤ d
theorem deepL_le (l : List S43) (d : Nat) : deepL l ≤ d ↔ ∀ x ∈ l, deepS x ≤ d := by
  induction l with
  | nil => simp [deepL]
  | cons x t ih => simp only [deepL, List.forall_mem_cons, ← ih]; omega
theorem dStep_ok (d : Nat) (g : Option (List Int → Except Int (S43 × List Int))) (hg : ∀ f, g = some f → 1 ≤ d ∧ ∀ b v r, ByteOk b → f b = .ok (v, r) → b = bytesS v ++ r ∧ pureDeep (d - 1) v)
    (b : List Int) (v : S43) (r : List Int) (hb : ByteOk b) (h : dStep g b = .ok (v, r)) : b = bytesS v ++ r ∧ pureDeep d v := by
  cases b with
  | nil => cases h
  | cons k b =>
    have hb' : ByteOk b := fun x hx => hb x (by simp [hx])
    simp only [dStep] at h
    split at h
    · rename_i hk
      subst hk
      obtain ⟨⟨n, b1⟩, h1, h⟩ := ex_bind h
      cases h
      obtain ⟨e, h0, ht⟩ := dNum_ok hb' h1
      refine ⟨by rw [e]; simp [bytesS], ?_, by simp [deepS]⟩
      simp [pureS, h0, ht]
    split at h
    · rename_i hk
      subst hk
      obtain ⟨⟨o, b1⟩, h1, h⟩ := ex_bind h
      cases h
      have e := dRaw_ok hb' h1
      refine ⟨by rw [e]; simp [bytesS], ?_, by simp [deepS]⟩
      simp [pureS]
    split at h
    · rename_i hk
      subst hk
      split at h
      · cases h
      split at h
      · cases h
      rename_i h2 hm
      cases g with
      | none => cases h
      | some f =>
        simp only at h
        obtain ⟨⟨l, b1⟩, h1, h⟩ := ex_bind h
        cases h
        obtain ⟨hd, hf⟩ := hg f rfl
        obtain ⟨e, hl, hp⟩ := dList_ok hf _ _ _ _ (byteOk_drop hb' 2) h1
        have ho := byteOk_take hb' 2
        have hn := numL_nonneg ho
        have e2 := low_num (b.take 2).reverse (byteOk_reverse ho)
        rw [List.reverse_reverse, List.length_reverse, show (b.take 2).length = 2 by rw [List.length_take]; omega] at e2
        refine ⟨?_, ?_, ?_⟩
        · rw [bytes3, hl, show (((numL (b.take 2)).toNat : Nat) : Int) = numL (b.take 2) by omega, e2, List.reverse_reverse]
          simp only [List.append_assoc, List.singleton_append, List.cons_append, List.nil_append, List.cons.injEq, true_and]
          rw [← e, List.take_append_drop]
        · rw [pure3]
          simp only [List.isEmpty_nil, Bool.and_true, decide_true, Bool.true_and, Bool.and_eq_true, decide_eq_true_eq]
          exact ⟨by omega, (pureL_all _).2 (fun x hx => (hp x hx).1)⟩
        · rw [deep3]
          have := (deepL_le l (d - 1)).2 (fun x hx => (hp x hx).2)
          show 1 + deepL l ≤ d
          omega
    · cases h
theorem dV_ok : ∀ (d : Nat) (b : List Int) (v : S43) (r : List Int), ByteOk b → dV d b = .ok (v, r) → b = bytesS v ++ r ∧ pureDeep d v
  | 0, b, v, r, hb, h => dStep_ok 0 none (fun f hf => by cases hf) b v r hb h
  | d + 1, b, v, r, hb, h => dStep_ok (d + 1) (some (dV d)) (fun f hf => by cases hf; exact ⟨by omega, dV_ok d⟩) b v r hb h
/-! what is encoded comes back -/
theorem drop_head (l : List Int) (x : Int) (t : List Int) (h : l.dropWhile (fun x => x == 0) = x :: t) : x ≠ 0 := by
  induction l with
  | nil => cases h
  | cons y ys ih =>
    rw [List.dropWhile_cons] at h
    split at h
    · exact ih h
    · rename_i hy
      cases h
      simpa using hy
theorem digs_fit (n : Int) (h0 : 0 ≤ n) (h1 : n ≤ 4611686018427387904) : n / 2 ^ (8 * digs 8 n) = 0 ∧ (n > 0 → digs 8 n ≠ 0) :=
  have h := strip 8 n h0 (by rw [show (2 : Int) ^ (8 * 8) = 18446744073709551616 by rfl]; omega)
  ⟨h.2.2, h.2.1⟩
theorem dNum_of (n : Int) (h0 : 0 ≤ n) (h1 : n ≤ 4611686018427387904) (r : List Int) : dNum ((digs 8 n : Int) :: (lowL n (digs 8 n)).reverse ++ r) = .ok (n, r) := by
  have hd := digs_le 8 n
  have hf := digs_fit n h0 h1
  have hl : ((lowL n (digs 8 n)).reverse).length = digs 8 n := by rw [List.length_reverse, lowL_length]
  rw [List.cons_append]
  simp only [dNum]
  rw [if_neg (by omega), Int.toNat_natCast, if_neg (by rw [List.length_append, hl]; omega)]
  by_cases hn : n = 0
  · subst hn
    rw [digs_zero]
    rfl
  · have hp := hf.2 (by omega)
    have e1 : ((lowL n (digs 8 n)).reverse ++ r).take (digs 8 n) = (lowL n (digs 8 n)).reverse := by
      rw [List.take_append_of_le_length (by omega), List.take_of_length_le (by omega)]
    have e2 : ((lowL n (digs 8 n)).reverse ++ r).drop (digs 8 n) = r := by
      rw [List.drop_append_of_le_length (by omega), List.drop_of_length_le (by omega), List.nil_append]
    rw [if_neg (by omega), e1, e2, num_low _ n h0 hf.1, if_neg (by omega)]
    have e3 := (plain_num n h0 h1).1
    have e4 : rd (lowL n (digs 8 n)).reverse 0 ≠ 0 := by
      cases hh : (lowL n (digs 8 n)).reverse with
      | nil => rw [hh] at hl; simp at hl; omega
      | cons x t =>
        rw [hh] at e3
        exact drop_head _ x t e3
    rw [if_neg e4]
theorem dRaw_of (o r : List Int) (h : o.length ≤ 2000000) : dRaw ((lowL (o.length : Int) 3).reverse ++ o ++ r) = .ok (o, r) := by
  have hl : ((lowL (o.length : Int) 3).reverse).length = 3 := by rw [List.length_reverse, lowL_length]
  have e0 : numL (lowL (o.length : Int) 3).reverse = o.length := num_low 3 _ (by omega) (by rw [show (2 : Int) ^ (8 * 3) = 16777216 by rfl]; omega)
  have e1 : ((lowL (o.length : Int) 3).reverse ++ o ++ r).take 3 = (lowL (o.length : Int) 3).reverse := by
    rw [List.append_assoc, List.take_append_of_le_length (by omega), List.take_of_length_le (by omega)]
  have e2 : ((lowL (o.length : Int) 3).reverse ++ o ++ r).drop 3 = o ++ r := by
    rw [List.append_assoc, List.drop_append_of_le_length (by omega), List.drop_of_length_le (by omega), List.nil_append]
  unfold dRaw
  rw [if_neg (by simp only [List.length_append, hl]; omega), e1, e2, e0, Int.toNat_natCast, if_neg (by rw [List.length_append]; omega), List.take_append_of_le_length (Nat.le_refl _), List.take_of_length_le (Nat.le_refl _), List.drop_append_of_le_length (Nat.le_refl _), List.drop_of_length_le (Nat.le_refl _), List.nil_append]
theorem dList_of {g : List Int → Except Int (S43 × List Int)} : ∀ (l : List S43) (r : List Int), (∀ x ∈ l, ∀ r, g (bytesS x ++ r) = .ok (x, r)) → dList g l.length (bytesL l ++ r) = .ok (l, r)
  | [], r, _ => rfl
  | x :: t, r, h => by
    simp only [List.length_cons, dList, bytesL]
    rw [List.append_assoc, h x (by simp)]
    simp only [Except.bind]
    rw [dList_of t r (fun y hy => h y (by simp [hy]))]
theorem dV_of (v : S43) : pureS v = true → okS v = true → ∀ (d : Nat) (r : List Int), deepS v ≤ d → dV d (bytesS v ++ r) = .ok (v, r) := by
  refine S_ind (P := fun v => pureS v = true → okS v = true → ∀ (d : Nat) (r : List Int), deepS v ≤ d → dV d (bytesS v ++ r) = .ok (v, r)) (fun v ih hp hok d r hd => ?_) v
  have hok' := ok_f3 v hok
  obtain ⟨f0, f1, f2, f3⟩ := v
  simp only at ih hok'
  have hst : ∃ g, dV d = dStep g ∧ (∀ d', d = d' + 1 → g = some (dV d')) := by
    cases d with
    | zero => exact ⟨none, rfl, fun d' h => by cases h⟩
    | succ d => exact ⟨some (dV d), rfl, fun d' h => by cases h; rfl⟩
  obtain ⟨g, hg, hgd⟩ := hst
  rw [hg]
  by_cases h1 : f0 = 1
  · subst h1
    simp only [pureS, if_true, Bool.and_eq_true, decide_eq_true_eq, List.isEmpty_iff] at hp
    obtain ⟨⟨⟨p0, p1⟩, rfl⟩, rfl⟩ := hp
    have e := dNum_of f1 p0 p1 r
    simp only [bytesS, if_true, numB, List.cons_append, dStep] at e ⊢
    rw [e]
    rfl
  by_cases h2 : f0 = 2
  · subst h2
    rw [pure2] at hp
    simp only [Bool.and_eq_true, decide_eq_true_eq, List.isEmpty_iff] at hp
    obtain ⟨rfl, rfl⟩ := hp
    have e := dRaw_of f2 r (by omega)
    rw [bytes2]
    simp only [List.singleton_append, List.cons_append, List.nil_append]
    rw [dStep2, e]
    rfl
  by_cases h3 : f0 = 3
  · subst h3
    rw [pure3] at hp
    simp only [Bool.and_eq_true, decide_eq_true_eq, List.isEmpty_iff] at hp
    obtain ⟨⟨⟨rfl, rfl⟩, p3⟩, p4⟩ := hp
    rw [deep3] at hd
    obtain ⟨d', rfl⟩ : ∃ q, d = q + 1 := ⟨d - 1, by omega⟩
    have hlow : ((lowL (f3.length : Int) 2).reverse).length = 2 := by rw [List.length_reverse, lowL_length]
    have e0 : numL (lowL (f3.length : Int) 2).reverse = f3.length := num_low 2 _ (by omega) (by rw [show (2 : Int) ^ (8 * 2) = 65536 by rfl]; omega)
    have e1 : ((lowL (f3.length : Int) 2).reverse ++ (bytesL f3 ++ r)).take 2 = (lowL (f3.length : Int) 2).reverse := by
      rw [List.take_append_of_le_length (by omega), List.take_of_length_le (by omega)]
    have e2 : ((lowL (f3.length : Int) 2).reverse ++ (bytesL f3 ++ r)).drop 2 = bytesL f3 ++ r := by
      rw [List.drop_append_of_le_length (by omega), List.drop_of_length_le (by omega), List.nil_append]
    rw [bytes3, hgd d' rfl]
    simp only [List.singleton_append, List.cons_append, List.append_assoc, List.nil_append]
    rw [dStep3, e1, e2, e0, if_neg (by rw [List.length_append, hlow]; omega), if_neg (by omega), Int.toNat_natCast]
    simp only []
    rw [dList_of f3 r (fun x hx r => ih x hx ((pureL_all _).1 p4 x hx) (hok'.2 x hx) d' r ((deepL_le f3 d').1 (by omega) x hx))]
    rfl
  · simp only [pureS] at hp
    rw [if_neg h1, if_neg h2, if_neg h3] at hp
    cases hp
/-! what is decoded is small -/
theorem cnt_bytes (v : S43) : pureS v = true → cntS v ≤ (bytesS v).length ∧ ∀ m, (bytesS v).length ≤ m → m ≤ 100000 → okS v = true := by
  refine S_ind (P := fun v => pureS v = true → cntS v ≤ (bytesS v).length ∧ ∀ m, (bytesS v).length ≤ m → m ≤ 100000 → okS v = true) (fun v ih hp => ?_) v
  have hl : ∀ l : List S43, (∀ x ∈ l, cntS x ≤ (bytesS x).length ∧ ∀ m, (bytesS x).length ≤ m → m ≤ 100000 → okS x = true) → cntL l ≤ (bytesL l).length ∧ ∀ m, (bytesL l).length ≤ m → m ≤ 100000 → okL l = true := by
    intro l
    induction l with
    | nil => intro _; simp [bytesL, cntL, okL]
    | cons x t iht =>
      intro hx
      have h1 := hx x (by simp)
      have h2 := iht (fun y hy => hx y (by simp [hy]))
      simp only [bytesL, cntL, okL, List.length_append, Bool.and_eq_true]
      exact ⟨by omega, fun m hm hm' => ⟨h1.2 m (by omega) hm', h2.2 m (by omega) hm'⟩⟩
  obtain ⟨f0, f1, f2, f3⟩ := v
  simp only at ih
  by_cases h1 : f0 = 1
  · subst h1
    simp only [pureS, if_true, Bool.and_eq_true, decide_eq_true_eq, List.isEmpty_iff] at hp
    obtain ⟨⟨⟨p0, p1⟩, rfl⟩, rfl⟩ := hp
    simp [bytesS, numB, cntS, cntL, okS, okL, lowL_length] <;> omega
  by_cases h2 : f0 = 2
  · subst h2
    rw [pure2] at hp
    simp only [Bool.and_eq_true, decide_eq_true_eq, List.isEmpty_iff] at hp
    obtain ⟨rfl, rfl⟩ := hp
    simp [bytesS, cntS, cntL, okS, okL, lowL_length]
    try omega
  by_cases h3 : f0 = 3
  · subst h3
    rw [pure3] at hp
    simp only [Bool.and_eq_true, decide_eq_true_eq, List.isEmpty_iff] at hp
    obtain ⟨⟨⟨rfl, rfl⟩, p3⟩, p4⟩ := hp
    have := hl f3 (fun x hx => ih x hx ((pureL_all _).1 p4 x hx))
    rw [bytes3]
    simp only [cntS, okS, List.length_append, List.length_reverse, lowL_length, List.length_nil, Bool.and_eq_true, List.length_singleton]
    exact ⟨by omega, fun m h1 h2 => ⟨by simp, this.2 m (by omega) h2⟩⟩
  · simp only [pureS] at hp
    rw [if_neg h1, if_neg h2, if_neg h3] at hp
    cases hp
theorem small_of (v : S43) (hp : pureS v = true) (hl : (bytesS v).length ≤ 100000) : Small v := ⟨by have := (cnt_bytes v hp).1; omega, (cnt_bytes v hp).2 _ (Nat.le_refl _) hl⟩

/-! ### are two trees one? -/
mutual
def bokS : S43 → Prop
  | ⟨_, _, f2, f3⟩ => ByteOk f2 ∧ bokL f3
def bokL : List S43 → Prop
  | [] => True
  | x :: t => bokS x ∧ bokL t
end
theorem bokL_all (l : List S43) : bokL l ↔ ∀ x ∈ l, bokS x := by
  induction l with
  | nil => simp [bokL]
  | cons x t ih => simp [bokL, ih]
theorem bok_iff (v : S43) : bokS v ↔ ByteOk v.f2 ∧ ∀ x ∈ v.f3, bokS x := by
  obtain ⟨f0, f1, f2, f3⟩ := v
  simp only [bokS, bokL_all]
theorem strs_inj (a b : List Int) (ha : ByteOk a) (hb : ByteOk b) (h : (strOfNums a).toList = (strOfNums b).toList) : a = b := by
  have h' : a.map (fun n => UInt8.ofNat n.toNat) = b.map (fun n => UInt8.ofNat n.toNat) := by
    rw [ByteArray.toList_eq, ByteArray.toList_eq, strOfNums_data, strOfNums_data] at h
    exact h
  clear h
  induction a generalizing b with
  | nil => cases b with
    | nil => rfl
    | cons y t => simp at h'
  | cons x s ih => cases b with
    | nil => simp at h'
    | cons y t =>
      simp only [List.map_cons, List.cons.injEq] at h'
      have hx := ha x (by simp)
      have hy := hb y (by simp)
      have e : x = y := by
        have := congrArg UInt8.toNat h'.1
        simp only [UInt8.toNat_ofNat'] at this
        omega
      rw [e, ih t (fun z hz => ha z (by simp [hz])) (fun z hz => hb z (by simp [hz])) h'.2]
theorem drop_ix (l : List S43) (i : Nat) (h : i < l.length) : l.drop i = rd_T43 l (i : Int) :: l.drop (i + 1) := ixS l i h
theorem S_ext {v w : S43} (h0 : v.f0 = w.f0) (h1 : v.f1 = w.f1) (h2 : v.f2 = w.f2) (h3 : v.f3 = w.f3) : v = w := by cases v; cases w; simp_all
theorem rsameL (v w : S43) (hl : v.f3.length = w.f3.length) (hm : v.f3.length ≤ 100000) (ih : ∀ x ∈ v.f3, ∀ y, ∃ b, Ev (fun k => bastilleref02_Same.f k x.f0 x.f1 x.f2 x.f3 y.f0 y.f1 y.f2 y.f3) b ∧ (b = true ↔ x = y)) :
    ∀ (j i : Nat), i + j = v.f3.length → ∃ b, Ev (fun k => bastilleref02_Same.l0 k (i : Int) v.f0 v.f1 v.f2 v.f3 w.f0 w.f1 w.f2 w.f3) b ∧ (b = true ↔ v.f3.drop i = w.f3.drop i) := by
  intro j
  induction j with
  | zero =>
    intro i hi
    rw [drop_end v.f3 i (by omega), drop_end w.f3 i (by omega)]
    exact ⟨true, Ev.some_ (fun k => by simp only [bastilleref02_Same.l0]; rw [if_neg (by omega)]), by simp⟩
  | succ j ihj =>
    intro i hi
    have hlt : i < v.f3.length := by omega
    have hlt' : i < w.f3.length := by omega
    rw [drop_ix v.f3 i hlt, drop_ix w.f3 i hlt']
    obtain ⟨b1, e1, q1⟩ := ih _ (memS v.f3 i hlt) (rd_T43 w.f3 (i : Int))
    obtain ⟨b2, e2, q2⟩ := ihj (i + 1) (by omega)
    have st : ∀ r, Ev (fun k => (bastilleref02_Same.f k (rd_T43 v.f3 (i : Int)).f0 (rd_T43 v.f3 (i : Int)).f1 (rd_T43 v.f3 (i : Int)).f2 (rd_T43 v.f3 (i : Int)).f3 (rd_T43 w.f3 (i : Int)).f0 (rd_T43 w.f3 (i : Int)).f1 (rd_T43 w.f3 (i : Int)).f2 (rd_T43 w.f3 (i : Int)).f3).bind fun t => if t = true then bastilleref02_Same.l0 k ((i + 1 : Nat) : Int) v.f0 v.f1 v.f2 v.f3 w.f0 w.f1 w.f2 w.f3 else some false) r → Ev (fun k => bastilleref02_Same.l0 k (i : Int) v.f0 v.f1 v.f2 v.f3 w.f0 w.f1 w.f2 w.f3) r :=
      fun r h => Ev.step (fun k => by simp only [bastilleref02_Same.l0]; simp only [if_pos (Int.ofNat_lt.2 hlt), if_pos (Int.ofNat_lt.2 hlt'), if_pos (Int.natCast_nonneg i)]; rw [ix_next i (by omega)]) h
    cases b1 with
    | false =>
      refine ⟨false, st _ (Ev.bind e1 (Ev.now _)), ?_⟩
      constructor
      · intro h; cases h
      · intro h; injection h with h1 h2; have := q1.2 h1; cases this
    | true =>
      refine ⟨b2, st _ (Ev.bind e1 (by simp only [if_true]; exact e2)), ?_⟩
      rw [q2, q1.1 rfl]
      simp
theorem rsame_ev (v : S43) : Small v → ∀ w, ∃ b, Ev (fun k => bastilleref02_Same.f k v.f0 v.f1 v.f2 v.f3 w.f0 w.f1 w.f2 w.f3) b ∧ (b = true ↔ v = w) := by
  refine S_ind (P := fun v => Small v → ∀ w, ∃ b, Ev (fun k => bastilleref02_Same.f k v.f0 v.f1 v.f2 v.f3 w.f0 w.f1 w.f2 w.f3) b ∧ (b = true ↔ v = w)) (fun v ih hs w => ?_) v
  have hsub := hs.sub
  have hl2 := hs.len2
  have hl3 := hs.len3
  have no : ∀ (P : Prop), ¬ P → (false = true ↔ P) := fun P h => ⟨fun h => (by cases h), fun p => absurd p h⟩
  have jf : Ev (fun k => bastilleref02_Same.j0 k true v.f0 v.f1 v.f2 v.f3 w.f0 w.f1 w.f2 w.f3) false := Ev.some_ (fun k => by simp only [bastilleref02_Same.j0, if_true])
  by_cases h0 : v.f0 = w.f0
  · by_cases h1 : v.f1 = w.f1
    · by_cases h2 : v.f2 = w.f2
      · have st : ∀ r, Ev (fun k => bastilleref02_Same.j0 k ((v.f3.length : Int) != (w.f3.length : Int)) v.f0 v.f1 v.f2 v.f3 w.f0 w.f1 w.f2 w.f3) r → Ev (fun k => bastilleref02_Same.f k v.f0 v.f1 v.f2 v.f3 w.f0 w.f1 w.f2 w.f3) r := fun r h => by
          refine Ev.step (f := fun k => (bastilleref01_Same.f k v.f2 w.f2).bind fun t => if t = true then bastilleref02_Same.j0 k ((v.f3.length : Int) != (w.f3.length : Int)) v.f0 v.f1 v.f2 v.f3 w.f0 w.f1 w.f2 w.f3 else bastilleref02_Same.j0 k true v.f0 v.f1 v.f2 v.f3 w.f0 w.f1 w.f2 w.f3) (fun k => by simp only [bastilleref02_Same.f, if_pos h0, if_pos h1]) ?_
          refine Ev.bind (Ev.fin (v.f2.length + 1) (fun k hk => same_ev v.f2 w.f2 (by omega) k hk)) ?_
          simp only [decide_eq_true h2, if_true]
          exact h
        by_cases h3 : v.f3.length = w.f3.length
        · obtain ⟨b, e, q⟩ := rsameL v w h3 hl3 (fun x hx y => ih x hx (hsub x hx) y) v.f3.length 0 (by omega)
          rw [List.drop_zero, List.drop_zero] at q
          refine ⟨b, st _ (Ev.step (fun k => ?_) e), q.trans ⟨fun h => S_ext h0 h1 h2 h, fun h => by rw [h]⟩⟩
          simp only [bastilleref02_Same.j0]
          rw [if_neg (by simp [h3])]
          rfl
        · refine ⟨false, st _ ?_, no _ (fun h => h3 (by rw [h]))⟩
          rw [show ((v.f3.length : Int) != (w.f3.length : Int)) = true by simp; omega]
          exact jf
      · refine ⟨false, ?_, no _ (fun h => h2 (by rw [h]))⟩
        refine Ev.step (f := fun k => (bastilleref01_Same.f k v.f2 w.f2).bind fun t => if t = true then bastilleref02_Same.j0 k ((v.f3.length : Int) != (w.f3.length : Int)) v.f0 v.f1 v.f2 v.f3 w.f0 w.f1 w.f2 w.f3 else bastilleref02_Same.j0 k true v.f0 v.f1 v.f2 v.f3 w.f0 w.f1 w.f2 w.f3) (fun k => by simp only [bastilleref02_Same.f, if_pos h0, if_pos h1]) ?_
        refine Ev.bind (Ev.fin (v.f2.length + 1) (fun k hk => same_ev v.f2 w.f2 (by omega) k hk)) ?_
        simp only [decide_eq_false h2]
        exact jf
    · exact ⟨false, Ev.step (fun k => by simp only [bastilleref02_Same.f, if_pos h0, if_neg h1]) jf, no _ (fun h => h1 (by rw [h]))⟩
  · exact ⟨false, Ev.step (fun k => by simp only [bastilleref02_Same.f, if_neg h0]) jf, no _ (fun h => h0 (by rw [h]))⟩
theorem csameL : ∀ (l m : List S43), (∀ x ∈ l, ∀ y, ∃ b, Ev (fun k => codec_Same.f k x.f0 x.f1 x.f2 x.f3 y.f0 y.f1 y.f2 y.f3) b ∧ (x = y → b = true) ∧ (bokS x → bokS y → b = true → x = y)) → l.length = m.length →
    ∃ b, Ev (fun k => eqL (fun x y => codec_Same.f k x.f0 x.f1 x.f2 x.f3 y.f0 y.f1 y.f2 y.f3) l m) b ∧ (l = m → b = true) ∧ (bokL l → bokL m → b = true → l = m)
  | [], [], _, _ => ⟨true, Ev.now _, fun _ => rfl, fun _ _ _ => rfl⟩
  | x :: s, y :: t, ih, hl => by
    obtain ⟨b1, e1, q1, p1⟩ := ih x (by simp) y
    obtain ⟨b2, e2, q2, p2⟩ := csameL s t (fun z hz => ih z (by simp [hz])) (by simpa using hl)
    simp only [eqL]
    cases b1 with
    | false =>
      refine ⟨false, Ev.bind e1 (Ev.now _), fun h => ?_, fun _ _ h => by cases h⟩
      injection h with h1 h2
      exact q1 h1
    | true =>
      refine ⟨b2, Ev.bind e1 (by simp only [if_true]; exact e2), fun h => ?_, fun h1 h2 h => ?_⟩
      · injection h with h1 h2
        exact q2 h2
      · rw [p1 h1.1 h2.1 rfl, p2 h1.2 h2.2 h]
  | [], _ :: _, _, h => by simp at h
  | _ :: _, [], _, h => by simp at h
theorem csame_ev (v : S43) : ∀ w, ∃ b, Ev (fun k => codec_Same.f k v.f0 v.f1 v.f2 v.f3 w.f0 w.f1 w.f2 w.f3) b ∧ (v = w → b = true) ∧ (bokS v → bokS w → b = true → v = w) := by
  refine S_ind (P := fun v => ∀ w, ∃ b, Ev (fun k => codec_Same.f k v.f0 v.f1 v.f2 v.f3 w.f0 w.f1 w.f2 w.f3) b ∧ (v = w → b = true) ∧ (bokS v → bokS w → b = true → v = w)) (fun v ih w => ?_) v
  have no : v ≠ w → ∀ (e : Ev (fun k => codec_Same.f k v.f0 v.f1 v.f2 v.f3 w.f0 w.f1 w.f2 w.f3) false), ∃ b, Ev (fun k => codec_Same.f k v.f0 v.f1 v.f2 v.f3 w.f0 w.f1 w.f2 w.f3) b ∧ (v = w → b = true) ∧ (bokS v → bokS w → b = true → v = w) :=
    fun h e => ⟨false, e, fun q => absurd q h, fun _ _ q => by cases q⟩
  by_cases h0 : v.f0 = w.f0
  · by_cases h1 : v.f1 = w.f1
    · cases hb : ((strOfNums v.f2).toList == (strOfNums w.f2).toList) with
      | false =>
        refine no (fun h => by rw [h] at hb; simp at hb) (Ev.some_ (fun k => ?_))
        simp only [codec_Same.f, if_pos h0, if_pos h1, bytes_Equal.f, hb, Option.bind_some]
        rfl
      | true =>
        by_cases h3 : v.f3.length = w.f3.length
        · obtain ⟨b, e, q, p⟩ := csameL v.f3 w.f3 ih h3
          refine ⟨b, Ev.step (fun k => ?_) e, fun h => q (by rw [h]), fun hv hw h => ?_⟩
          · simp only [codec_Same.f, if_pos h0, if_pos h1, bytes_Equal.f, hb, Option.bind_some, if_true, if_pos h3]
          · rw [bok_iff] at hv hw
            exact S_ext h0 h1 (strs_inj _ _ hv.1 hw.1 (beq_iff_eq.1 hb)) (p ((bokL_all _).2 hv.2) ((bokL_all _).2 hw.2) h)
        · refine no (fun h => h3 (by rw [h])) (Ev.some_ (fun k => ?_))
          simp only [codec_Same.f, if_pos h0, if_pos h1, bytes_Equal.f, hb, Option.bind_some, if_true, if_neg h3]
    · refine no (fun h => h1 (by rw [h])) (Ev.some_ (fun k => ?_))
      simp only [codec_Same.f, if_pos h0, if_neg h1]
  · refine no (fun h => h0 (by rw [h])) (Ev.some_ (fun k => ?_))
    simp only [codec_Same.f, if_neg h0]
theorem csame_refl (v : S43) : Ev (fun k => codec_Same.f k v.f0 v.f1 v.f2 v.f3 v.f0 v.f1 v.f2 v.f3) true := by
  obtain ⟨b, e, q, _⟩ := csame_ev v v
  rw [← q rfl]
  exact e
theorem rsame_refl (v : S43) (hs : Small v) : Ev (fun k => bastilleref02_Same.f k v.f0 v.f1 v.f2 v.f3 v.f0 v.f1 v.f2 v.f3) true := by
  obtain ⟨b, e, q⟩ := rsame_ev v hs v
  rw [← q.2 rfl]
  exact e

/-! ### the reader, plainly -/
structure Fit {α : Type} (x : Except Int (α × List Int)) (r : α × List Int × Int) : Prop where
  ok : ∀ v b, x = .ok (v, b) → r = (v, b, 0)
  err : ∀ e, x = .error e → r.2.2 = e ∧ e ≠ 0
theorem Fit.mkOk {α : Type} (v : α) (b : List Int) : Fit (.ok (v, b)) (v, b, 0) := ⟨fun _ _ h => by cases h; rfl, fun _ h => by cases h⟩
theorem Fit.mkErr {α : Type} (e : Int) (he : e ≠ 0) (v : α) (b : List Int) : Fit (.error e) (v, b, e) := ⟨fun _ _ h => (by cases h), fun _ h => by cases h; exact ⟨rfl, he⟩⟩
theorem takeP_0 (b : List Int) (n : Nat) : takeP b 0 (n : Int) = some (if b.length < n then ([], b, 10) else (b.take n, b.drop n, 0)) := by
  unfold takeP
  rw [if_pos rfl]
  by_cases h : b.length < n
  · rw [if_pos (by omega), if_pos h]
  · rw [if_neg (by omega), if_pos (by omega), if_neg h, Int.toNat_natCast]
theorem takeP_e (b : List Int) (e n : Int) (he : e ≠ 0) : takeP b e n = some ([], b, e) := by
  unfold takeP
  rw [if_neg he]
theorem get_few (o : List Int) (ho : ByteOk o) (h0 : 0 < o.length) (h3 : o.length ≤ 3) : getS o = (numL o, 0) := by
  have hn := num_lt o.reverse (byteOk_reverse ho)
  rw [List.reverse_reverse, List.length_reverse] at hn
  have : numL o ≤ 4611686018427387904 := by
    obtain h | h | h : o.length = 1 ∨ o.length = 2 ∨ o.length = 3 := by omega
    · rw [h, show (2 : Int) ^ (8 * 1) = 256 from rfl] at hn; omega
    · rw [h, show (2 : Int) ^ (8 * 2) = 65536 from rfl] at hn; omega
    · rw [h, show (2 : Int) ^ (8 * 3) = 16777216 from rfl] at hn; omega
  unfold getS
  rw [if_neg (by omega), if_neg (by omega), if_neg (by omega)]
theorem count_ev (b : List Int) (hb : ByteOk b) (s : Nat) (h1 : 1 ≤ s) (h3 : s ≤ 3) : Ev (fun k => countP k b 0 (s : Int)) (if b.length < s then (0, b, 10) else (numL (b.take s), b.drop s, 0)) := by
  unfold countP
  rw [takeP_0]
  by_cases h : b.length < s
  · simp only [if_pos h, Option.bind_some]
    refine Ev.bind (Ev.fin 10 (fun k hk => word_get [] (by simp [ByteOk]) k hk)) ?_
    exact Ev.now _
  · simp only [if_neg h, Option.bind_some]
    have ho := byteOk_take hb s
    have hl : (b.take s).length = s := by rw [List.length_take]; omega
    refine Ev.bind (Ev.fin 10 (fun k hk => word_get _ ho k hk)) ?_
    rw [get_few _ ho (by omega) (by omega)]
    exact Ev.now _
theorem number_ev (b : List Int) (hb : ByteOk b) : ∃ r, Ev (fun k => numberP k b 0) r ∧ Fit (dNum b) r := by
  unfold numberP
  have hc := count_ev b hb 1 (by omega) (by omega)
  cases b with
  | nil =>
    rw [if_pos (by simp)] at hc
    refine ⟨(0, [], 10), Ev.bind hc ?_, Fit.mkErr 10 (by decide) _ _⟩
    simp only [if_neg (show ¬ (0 : Int) > 8 by decide), takeP_e [] 10 0 (by decide)]
    exact Ev.now _
  | cons s b =>
    have hs := hb s (by simp)
    have hb' : ByteOk b := fun x hx => hb x (by simp [hx])
    rw [if_neg (by simp)] at hc
    have e1 : numL ((s :: b).take 1) = s := by show 256 * 0 + s = s; omega
    rw [e1, show (s :: b).drop 1 = b from rfl] at hc
    by_cases h8 : s > 8
    · refine ⟨(0, b, 11), Ev.bind hc ?_, ?_⟩
      · simp only [if_pos h8]
        exact Ev.now _
      · simp only [dNum, if_pos h8]
        exact Fit.mkErr 11 (by decide) _ _
    · obtain ⟨n, rfl⟩ := Int.eq_ofNat_of_zero_le hs.1
      simp only [dNum, if_neg h8, Int.toNat_natCast]
      by_cases hl : b.length < n
      · refine ⟨(0, b, 10), Ev.bind hc ?_, ?_⟩
        · simp only [if_neg h8]
          rw [takeP_0, if_pos hl]
          exact Ev.now _
        · rw [if_pos hl]
          exact Fit.mkErr 10 (by decide) _ _
      · have ho := byteOk_take hb' n
        have hl' : (b.take n).length = n := by rw [List.length_take]; omega
        rw [if_neg hl]
        by_cases h0 : n = 0
        · subst h0
          refine ⟨(0, b, 0), Ev.bind hc ?_, ?_⟩
          · simp only [if_neg h8]
            rw [takeP_0, if_neg hl]
            exact Ev.now _
          · rw [if_pos (by omega)]
            exact Fit.mkOk _ _
        · rw [if_neg (by omega)]
          have hg : getS (b.take n) = if numL (b.take n) > 4611686018427387904 then (0, 11) else (numL (b.take n), 0) := by
            unfold getS
            rw [if_neg (by omega), if_neg (by omega)]
          by_cases ht : numL (b.take n) > 4611686018427387904
          · refine ⟨(0, b.drop n, 11), Ev.bind hc ?_, ?_⟩
            · simp only [if_neg h8]
              rw [takeP_0, if_neg hl]
              simp only [Option.bind_some, hl', if_neg h0]
              refine Ev.bind (Ev.fin 10 (fun k hk => word_get _ ho k hk)) ?_
              rw [hg, if_pos ht]
              exact Ev.now _
            · rw [if_pos ht]
              exact Fit.mkErr 11 (by decide) _ _
          · rw [if_neg ht]
            by_cases hz : rd (b.take n) 0 = 0
            · refine ⟨(numL (b.take n), b.drop n, 11), Ev.bind hc ?_, ?_⟩
              · simp only [if_neg h8]
                rw [takeP_0, if_neg hl]
                simp only [Option.bind_some, hl', if_neg h0]
                refine Ev.bind (Ev.fin 10 (fun k hk => word_get _ ho k hk)) ?_
                rw [hg, if_neg ht]
                simp only [if_pos hz, if_true]
                exact Ev.now _
              · rw [if_pos hz]
                exact Fit.mkErr 11 (by decide) _ _
            · refine ⟨(numL (b.take n), b.drop n, 0), Ev.bind hc ?_, ?_⟩
              · simp only [if_neg h8]
                rw [takeP_0, if_neg hl]
                simp only [Option.bind_some, hl', if_neg h0]
                refine Ev.bind (Ev.fin 10 (fun k hk => word_get _ ho k hk)) ?_
                rw [hg, if_neg ht]
                simp only [if_neg hz, if_true]
                exact Ev.now _
              · rw [if_neg hz]
                exact Fit.mkOk _ _
theorem elems_e (g : Nat → List Int → Int → Option (S43 × List Int × Int)) (m : Nat) (acc : List S43) (b : List Int) (e : Int) (he : e ≠ 0) : Ev (fun k => elemsP (g k) m acc b e) (acc, b, e) := by
  cases m with
  | zero => exact Ev.now _
  | succ m => simp only [elemsP, if_neg he]; exact Ev.now _
theorem elems_ev (g : Nat → List Int → Int → Option (S43 × List Int × Int)) (f : List Int → Except Int (S43 × List Int)) (L : Nat)
    (hg : ∀ b, ByteOk b → b.length ≤ L → ∃ r, Ev (fun k => g k b 0) r ∧ Fit (f b) r) (hf : ∀ b v r, ByteOk b → f b = .ok (v, r) → ∃ p, b = p ++ r) :
    ∀ (m : Nat) (b : List Int) (acc : List S43), ByteOk b → b.length ≤ L → acc.length + m ≤ 5000 → ∃ r, Ev (fun k => elemsP (g k) m acc b 0) (acc ++ r.1, r.2.1, r.2.2) ∧ Fit (dList f m b) r := by
  intro m
  induction m with
  | zero => intro b acc _ _ _; exact ⟨([], b, 0), by simp only [elemsP, List.append_nil]; exact Ev.now _, Fit.mkOk _ _⟩
  | succ m ih =>
    intro b acc hb hl hm
    obtain ⟨⟨v, b1, e1⟩, hv, fv⟩ := hg b hb hl
    simp only [elemsP, if_true]
    cases hx : f b with
    | error e =>
      obtain ⟨h1, h2⟩ := fv.err e hx
      simp only at h1
      subst h1
      refine ⟨([v], b1, e1), Ev.bind hv ?_, ?_⟩
      · simp only [if_pos (show acc.length < 1000000 by omega)]
        exact elems_e g m _ _ _ h2
      · simp only [dList, hx, Except.bind]
        exact Fit.mkErr _ h2 _ _
    | ok y =>
      obtain ⟨y, c⟩ := y
      have hz := fv.ok _ _ hx
      simp only [Prod.mk.injEq] at hz
      obtain ⟨rfl, rfl, rfl⟩ := hz
      obtain ⟨p, rfl⟩ := hf _ _ _ hb hx
      obtain ⟨⟨l, b2, e2⟩, h2, f2⟩ := ih b1 (acc ++ [v]) (byteOk_right hb) (by simp at hl; omega) (by simp; omega)
      refine ⟨(v :: l, b2, e2), Ev.bind hv ?_, ?_⟩
      · simp only [if_pos (show acc.length < 1000000 by omega)]
        rw [show acc ++ v :: l = acc ++ [v] ++ l by simp]
        exact h2
      · simp only [dList, hx, Except.bind]
        cases hd : dList f m b1 with
        | error e =>
          obtain ⟨h3, h4⟩ := f2.err e hd
          simp only at h3
          subst h3
          exact Fit.mkErr _ h4 _ _
        | ok z =>
          obtain ⟨z, c2⟩ := z
          cases f2.ok _ _ hd
          exact Fit.mkOk _ _
theorem valueP_nil (k : Nat) (d : Int) : valueP (k + 1) [] 0 d = some (⟨0, 0, [], []⟩, [], 10) := by
  rw [valueP, show takeP [] 0 1 = some ([], [], 10) from rfl]
  rfl
theorem valueP_cons (k : Nat) (c : Int) (b : List Int) (d : Int) (h0 : 0 ≤ c) (h1 : c ≤ 255) : valueP (k + 1) (c :: b) 0 d =
    if c = 1 then (numberP k b 0).bind fun r => some (⟨1, r.1, [], []⟩, r.2.1, r.2.2)
    else if c = 2 then (countP k b 0 3).bind fun c => (takeP c.2.1 c.2.2 c.1).bind fun u => if u.1.length ≤ 140737488355328 then some (⟨2, 0, u.1, []⟩, u.2.1, u.2.2) else none
    else if c = 3 then (countP k b 0 2).bind fun c => (elemsP (fun b e => valueP k b e (wrap64 (d - 1))) c.1.toNat [] c.2.1 (if c.1 > 4096 then failP c.2.2 else if d = 0 then failP c.2.2 else c.2.2)).bind fun r => some (⟨3, 0, [], r.1⟩, r.2.1, r.2.2)
    else some (⟨0, 0, [], []⟩, b, 11) := by
  rw [valueP, show takeP (c :: b) 0 1 = some ([c], b, 0) by have := takeP_0 (c :: b) 1; rw [if_neg (by simp)] at this; exact this]
  simp only [Option.bind_some, if_true]
  rw [show rd [c] 0 = c from rfl, w64i (by omega) (by omega)]
  rfl
theorem value_step (d : Nat) (hd : d ≤ 16) (g : Option (List Int → Except Int (S43 × List Int))) (hn : d = 0 → g = none)
    (hs : ∀ q, d = q + 1 → ∃ f, g = some f ∧ (∀ b, ByteOk b → b.length ≤ 2000000 → ∃ r, Ev (fun k => valueP k b 0 (q : Int)) r ∧ Fit (f b) r) ∧ (∀ b v r, ByteOk b → f b = .ok (v, r) → ∃ p, b = p ++ r)) :
    ∀ b, ByteOk b → b.length ≤ 2000000 → ∃ r, Ev (fun k => valueP k b 0 (d : Int)) r ∧ Fit (dStep g b) r := by
  intro b hb hl
  cases b with
  | nil => exact ⟨_, Ev.some_ (fun k => valueP_nil k _), Fit.mkErr 10 (by decide) _ _⟩
  | cons c b =>
    have hc := hb c (by simp)
    have hb' : ByteOk b := fun x hx => hb x (by simp [hx])
    have hl' : b.length ≤ 2000000 := by simp at hl; omega
    simp only [dStep]
    by_cases h1 : c = 1
    · subst h1
      obtain ⟨⟨n, b1, e1⟩, hv, fv⟩ := number_ev b hb'
      refine ⟨(⟨1, n, [], []⟩, b1, e1), Ev.step (f := fun k => (numberP k b 0).bind fun r => some (⟨1, r.1, [], []⟩, r.2.1, r.2.2)) (fun k => by rw [valueP_cons _ _ _ _ hc.1 hc.2, if_pos rfl]) (Ev.bind hv (Ev.now _)), ?_⟩
      rw [if_pos rfl]
      cases hx : dNum b with
      | error e => obtain ⟨h3, h4⟩ := fv.err e hx; simp only at h3; subst h3; exact Fit.mkErr _ h4 _ _
      | ok z => obtain ⟨z, c2⟩ := z; cases fv.ok _ _ hx; exact Fit.mkOk _ _
    rw [if_neg h1]
    by_cases h2 : c = 2
    · subst h2
      have hce := count_ev b hb' 3 (by omega) (by omega)
      have st : ∀ r, Ev (fun k => (countP k b 0 3).bind fun c => (takeP c.2.1 c.2.2 c.1).bind fun u => if u.1.length ≤ 140737488355328 then some ((⟨2, 0, u.1, []⟩ : S43), u.2.1, u.2.2) else none) r → Ev (fun k => valueP k (2 :: b) 0 (d : Int)) r :=
        fun r h => Ev.step (fun k => by rw [valueP_cons _ _ _ _ hc.1 hc.2, if_neg h1, if_pos rfl]) h
      rw [if_pos rfl]
      unfold dRaw
      by_cases h3 : b.length < 3
      · rw [if_pos h3] at hce ⊢
        refine ⟨(⟨2, 0, [], []⟩, b, 10), st _ (Ev.bind hce ?_), Fit.mkErr 10 (by decide) _ _⟩
        · simp only [takeP_e b 10 0 (by decide)]
          exact Ev.now _
      · rw [if_neg h3] at hce ⊢
        have hn0 := numL_nonneg (byteOk_take hb' 3)
        obtain ⟨n, en⟩ := Int.eq_ofNat_of_zero_le hn0
        rw [en] at hce ⊢
        rw [Int.toNat_natCast]
        by_cases h4 : (b.drop 3).length < n
        · rw [if_pos h4]
          refine ⟨(⟨2, 0, [], []⟩, b.drop 3, 10), st _ (Ev.bind hce ?_), Fit.mkErr 10 (by decide) _ _⟩
          · simp only []
            rw [takeP_0, if_pos h4]
            exact Ev.now _
        · rw [if_neg h4]
          refine ⟨(⟨2, 0, (b.drop 3).take n, []⟩, (b.drop 3).drop n, 0), st _ (Ev.bind hce ?_), Fit.mkOk _ _⟩
          simp only []
          rw [takeP_0, if_neg h4]
          simp only [Option.bind_some]
          rw [if_pos (by simp only [List.length_take, List.length_drop]; omega)]
          exact Ev.now _
    rw [if_neg h2]
    by_cases h3 : c = 3
    · subst h3
      have hce := count_ev b hb' 2 (by omega) (by omega)
      have st : ∀ r, Ev (fun k => (countP k b 0 2).bind fun c => (elemsP (fun b e => valueP k b e (wrap64 ((d : Int) - 1))) c.1.toNat [] c.2.1 (if c.1 > 4096 then failP c.2.2 else if (d : Int) = 0 then failP c.2.2 else c.2.2)).bind fun r => some ((⟨3, 0, [], r.1⟩ : S43), r.2.1, r.2.2)) r → Ev (fun k => valueP k (3 :: b) 0 (d : Int)) r :=
        fun r h => Ev.step (fun k => by rw [valueP_cons _ _ _ _ hc.1 hc.2, if_neg h1, if_neg h2, if_pos rfl]) h
      rw [if_pos rfl]
      by_cases h5 : b.length < 2
      · rw [if_pos h5] at hce ⊢
        refine ⟨(⟨3, 0, [], []⟩, b, 10), st _ (Ev.bind hce ?_), Fit.mkErr 10 (by decide) _ _⟩
        · have e10 : (if (0 : Int) > 4096 then failP 10 else if (d : Int) = 0 then failP 10 else 10) = 10 := by
            rw [if_neg (by decide), show failP 10 = 10 from rfl]
            split <;> rfl
          simp only [e10]
          exact Ev.now _
      · rw [if_neg h5] at hce ⊢
        have hn0 := numL_nonneg (byteOk_take hb' 2)
        obtain ⟨n, en⟩ := Int.eq_ofNat_of_zero_le hn0
        rw [en] at hce ⊢
        rw [Int.toNat_natCast]
        by_cases h6 : (n : Int) > 4096
        · rw [if_pos h6]
          refine ⟨(⟨3, 0, [], []⟩, b.drop 2, 11), st _ (Ev.bind hce ?_), Fit.mkErr 11 (by decide) _ _⟩
          · simp only [if_pos h6]
            exact Ev.bind (elems_e (fun k b e => valueP k b e (wrap64 ((d : Int) - 1))) _ _ _ _ (by decide)) (Ev.now _)
        · rw [if_neg h6]
          by_cases hd0 : d = 0
          · rw [hn hd0]
            refine ⟨(⟨3, 0, [], []⟩, b.drop 2, 11), st _ (Ev.bind hce ?_), Fit.mkErr 11 (by decide) _ _⟩
            · simp only [if_neg h6, if_pos (show (d : Int) = 0 by omega)]
              exact Ev.bind (elems_e (fun k b e => valueP k b e (wrap64 ((d : Int) - 1))) _ _ _ _ (by decide)) (Ev.now _)
          · obtain ⟨q, rfl⟩ : ∃ q, d = q + 1 := ⟨d - 1, by omega⟩
            obtain ⟨f, rfl, hv, hsf⟩ := hs q rfl
            have ew : wrap64 (((q + 1 : Nat) : Int) - 1) = (q : Int) := by rw [w64i (by omega) (by omega)]; omega
            obtain ⟨⟨l, b2, e2⟩, h7, f7⟩ := elems_ev (fun k b e => valueP k b e (q : Int)) f 2000000 hv hsf n (b.drop 2) [] (byteOk_drop hb' 2) (by rw [List.length_drop]; omega) (by simp; omega)
            refine ⟨(⟨3, 0, [], l⟩, b2, e2), st _ (Ev.bind hce ?_), ?_⟩
            · simp only [if_neg h6, if_neg (show ¬ ((q + 1 : Nat) : Int) = 0 by omega), ew, Int.toNat_natCast]
              exact Ev.bind h7 (Ev.now _)
            · simp only []
              cases hx : dList f n (b.drop 2) with
              | error e => obtain ⟨h3, h4⟩ := f7.err e hx; simp only at h3; subst h3; exact Fit.mkErr _ h4 _ _
              | ok z => obtain ⟨z, c2⟩ := z; cases f7.ok _ _ hx; exact Fit.mkOk _ _
    · rw [if_neg h3]
      exact ⟨_, Ev.some_ (fun k => by rw [valueP_cons _ _ _ _ hc.1 hc.2, if_neg h1, if_neg h2, if_neg h3]), Fit.mkErr 11 (by decide) _ _⟩
theorem value_ev : ∀ (d : Nat), d ≤ 16 → ∀ b, ByteOk b → b.length ≤ 2000000 → ∃ r, Ev (fun k => valueP k b 0 (d : Int)) r ∧ Fit (dV d b) r
  | 0, hd => value_step 0 hd none (fun _ => rfl) (fun q h => by omega)
  | d + 1, hd => value_step (d + 1) hd (some (dV d)) (fun h => by omega) (fun q h => by
      obtain rfl : q = d := by omega
      exact ⟨dV q, rfl, value_ev q (by omega), fun b v r hb h => ⟨_, (dV_ok q b v r hb h).1⟩⟩)
def decT (b : List Int) : S43 × Int :=
  if b.length > 1048576 then (⟨0, 0, [], []⟩, 3) else match dV 16 b with
    | .error e => (⟨0, 0, [], []⟩, e)
    | .ok (v, []) => (v, 0)
    | .ok (_, _ :: _) => (⟨0, 0, [], []⟩, 12)
theorem decode_ev (b : List Int) (hb : ByteOk b) : Ev (fun k => codec_Decode.f k b) ((decT b).1.f0, (decT b).1.f1, (decT b).1.f2, (decT b).1.f3, (decT b).2) := by
  unfold codec_Decode.f decT
  by_cases hl : b.length > 1048576
  · rw [if_pos hl]
    simp only [if_neg (show ¬ b.length ≤ 1048576 by omega)]
    exact Ev.now _
  · rw [if_neg hl]
    simp only [if_pos (show b.length ≤ 1048576 by omega)]
    obtain ⟨⟨v, b1, e1⟩, hv, fv⟩ := value_ev 16 (by omega) b hb (by omega)
    refine Ev.bind hv ?_
    cases hx : dV 16 b with
    | error e =>
      obtain ⟨h3, h4⟩ := fv.err e hx
      simp only at h3
      subst h3
      have : endP b1 e1 = e1 := if_neg h4
      simp only [this, if_neg h4]
      exact Ev.now _
    | ok z =>
      obtain ⟨z, c⟩ := z
      cases fv.ok _ _ hx
      cases b1 with
      | nil => exact Ev.now _
      | cons y t => exact Ev.now _
theorem decT_ok (b : List Int) (hb : ByteOk b) (h : (decT b).2 = 0) : b.length ≤ 1048576 ∧ b = bytesS (decT b).1 ∧ pureS (decT b).1 = true ∧ deepS (decT b).1 ≤ 16 := by
  unfold decT at h ⊢
  by_cases hl : b.length > 1048576
  · rw [if_pos hl] at h; cases h
  · rw [if_neg hl] at h ⊢
    cases hx : dV 16 b with
    | error e =>
      rw [hx] at h
      obtain ⟨⟨v, b1, e1⟩, hv, fv⟩ := value_ev 16 (by omega) b hb (by omega)
      exact absurd h (fv.err e hx).2
    | ok z =>
      obtain ⟨z, c⟩ := z
      rw [hx] at h
      cases c with
      | nil =>
        have := dV_ok 16 b z [] hb hx
        rw [List.append_nil] at this
        exact ⟨by omega, this.1, this.2.1, this.2.2⟩
      | cons y t => cases h
theorem decT_bad (b : List Int) (h : (decT b).2 ≠ 0) : (decT b).1 = ⟨0, 0, [], []⟩ := by
  unfold decT at h ⊢
  split
  · rfl
  · rename_i hl
    rw [if_neg hl] at h
    split <;> simp_all
theorem decT_of (v : S43) (hp : pureS v = true) (hok : okS v = true) (hd : deepS v ≤ 16) (hl : (bytesS v).length ≤ 1048576) : decT (bytesS v) = (v, 0) := by
  have := dV_of v hp hok 16 [] hd
  rw [List.append_nil] at this
  unfold decT
  rw [if_neg (by omega), this]

/-! ### the law -/
theorem back_j1 (l : List Int) (hb : ByteOk l) (hl : l.length ≤ 3000) : Ev (fun k => bastillelaw02_CodecBack.j1 k l) true := by
  refine Ev.step (f := fun k => (codec_Decode.f k l).bind fun bt => if bt.2.2.2.2 = 0 then (codec_Encode.f k bt.1 bt.2.1 bt.2.2.1 bt.2.2.2.1).bind fun b2 => if b2.2 = 0 then (bastilleref01_Same.f k b2.1 l).bind fun t => some t else none else (codec_Same.f k bt.1 bt.2.1 bt.2.2.1 bt.2.2.2.1 0 0 ([] : List Int) ([] : List S43)).bind fun t => some t) (fun k => by simp only [bastillelaw02_CodecBack.j1]) ?_
  refine Ev.bind (decode_ev l hb) ?_
  by_cases h0 : (decT l).2 = 0
  · obtain ⟨h1, h2, h3, h4⟩ := decT_ok l hb h0
    simp only [if_pos h0]
    have hs : Small (decT l).1 := small_of _ h3 (by rw [← h2]; omega)
    have hr : rightS (decT l).1 = true := by
      simp only [rightS, h3, Bool.true_and, Bool.and_eq_true, decide_eq_true_eq]
      rw [← h2]
      exact ⟨h4, h1⟩
    refine Ev.bind (encode_ev _ hs) ?_
    rw [if_pos hr, ← h2]
    simp only [if_true]
    exact Ev.bind (Ev.fin (l.length + 1) (fun k hk => same_refl l (by omega) k hk)) (Ev.now _)
  · simp only [if_neg h0]
    rw [decT_bad l h0]
    exact Ev.bind (csame_refl (⟨0, 0, [], []⟩ : S43)) (Ev.now _)
theorem byteOk_bytesS (v : S43) : bokS v → pureS v = true → okS v = true → ByteOk (bytesS v) := by
  refine S_ind (P := fun v => bokS v → pureS v = true → okS v = true → ByteOk (bytesS v)) (fun v ih hb hp hok => ?_) v
  rw [bok_iff] at hb
  have hok' := ok_f3 v hok
  obtain ⟨f0, f1, f2, f3⟩ := v
  simp only at ih hb hok'
  have app : ∀ {a b : List Int}, ByteOk a → ByteOk b → ByteOk (a ++ b) := fun ha hb x hx => by
    rcases List.mem_append.1 hx with h | h
    · exact ha x h
    · exact hb x h
  have one : ∀ c : Int, 0 ≤ c → c ≤ 255 → ByteOk [c] := fun c h0 h1 x hx => by
    rw [List.mem_singleton.1 hx]
    exact ⟨h0, h1⟩
  simp only [bytesS]
  split
  · have := digs_le 8 f1
    have h := app (app (one 1 (by omega) (by omega)) (one (digs 8 f1 : Int) (by omega) (by omega))) (byteOk_reverse (byteOk_lowL f1 (digs 8 f1)))
    exact h
  · split
    · exact app (app (one 2 (by omega) (by omega)) (byteOk_reverse (byteOk_lowL _ _))) hb.1
    · refine app (app (one 3 (by omega) (by omega)) (byteOk_reverse (byteOk_lowL _ _))) ?_
      rename_i h1 h2
      have hp3 : pureL f3 = true := by
        simp only [pureS] at hp
        rw [if_neg h1, if_neg h2] at hp
        split at hp
        · simp only [Bool.and_eq_true] at hp
          exact hp.2
        · cases hp
      have hq : ∀ x ∈ f3, ByteOk (bytesS x) := fun x hx => ih x hx (hb.2 x hx) ((pureL_all _).1 hp3 x hx) (hok'.2 x hx)
      clear ih hb hp hok hok' hp3
      induction f3 with
      | nil => intro x hx; simp [bytesL] at hx
      | cons y t iht => exact app (hq y (by simp)) (iht (fun x hx => hq x (by simp [hx])))
theorem bok_g (v : S43) : g43 v → bokS v := by
  refine S_ind (P := fun v => g43 v → bokS v) (fun v ih h => ?_) v
  rw [bok_iff]
  cases h
  rename_i h0 h1 h2 h3 h4 h5
  exact ⟨byteOk_of h3, fun x hx => ih x hx (h5 x hx)⟩
theorem bok_args {a0 a1 : Int} {l2 : List Int} {l3 : List S43} (h2 : l2.length ≤ maxLen ∧ ∀ y_ ∈ l2, (Lit.int .u8 y_).wf = true) (h3 : okG l3) : bokS (⟨a0, a1, l2, l3⟩ : S43) := by
  rw [bok_iff]
  exact ⟨byteOk_of h2.2, fun x hx => bok_g x (h3.2 x hx)⟩
theorem CodecBack : bastillelaw02_CodecBack.Pure := by
  intro a0 a1 l2 l3 l1 _ _ h2 h3 hl1
  refine Ev.rounds (r := true) ?_
  unfold bastillelaw02_CodecBack.f
  refine Ev.bind awake_ev ?_
  simp only [if_true]
  obtain ⟨b, eb, hb⟩ := few_ev ⟨a0, a1, l2, l3⟩ h3
  refine Ev.bind eb ?_
  cases b with
  | false => exact Ev.some_ (fun k => by simp [bastillelaw02_CodecBack.j0])
  | true =>
    have hs := hb rfl
    have hbok := bok_args (a0 := a0) (a1 := a1) h2 h3
    have hb1 := byteOk_of hl1.2
    simp only [if_true]
    by_cases hlen : (l1.length : Int) > 3000
    · rw [decide_eq_true hlen]
      exact Ev.some_ (fun k => by simp [bastillelaw02_CodecBack.j0])
    · rw [decide_eq_false hlen]
      have hj := back_j1 l1 hb1 (by omega)
      refine Ev.step (f := fun k => (codec_Encode.f k a0 a1 l2 l3).bind fun bt => if bt.2 = 0 then (codec_Decode.f k bt.1).bind fun b2 => if b2.2.2.2.2 = 0 then (codec_Same.f k b2.1 b2.2.1 b2.2.2.1 b2.2.2.2.1 a0 a1 l2 l3).bind fun t => if t = true then (bastilleref02_Same.f k b2.1 b2.2.1 b2.2.2.1 b2.2.2.2.1 a0 a1 l2 l3).bind fun t => if t = true then bastillelaw02_CodecBack.j1 k l1 else none else none else none else if (bt.1.length : Int) > 0 then none else bastillelaw02_CodecBack.j1 k l1) (fun k => by simp [bastillelaw02_CodecBack.j0]) ?_
      refine Ev.bind (encode_ev _ hs) ?_
      cases hr : rightS (⟨a0, a1, l2, l3⟩ : S43) with
      | false => exact hj
      | true =>
        simp only [rightS, Bool.and_eq_true, decide_eq_true_eq] at hr
        simp only [if_true]
        refine Ev.bind (decode_ev _ (byteOk_bytesS _ hbok hr.1.1 hs.ok)) ?_
        rw [decT_of _ hr.1.1 hs.ok hr.1.2 hr.2]
        simp only [if_true]
        refine Ev.bind (csame_refl (⟨a0, a1, l2, l3⟩ : S43)) ?_
        simp only [if_true]
        refine Ev.bind (rsame_refl (⟨a0, a1, l2, l3⟩ : S43) hs) ?_
        simp only [if_true]
        exact hj

end Go.Proofs.Ytiibnfnjfmcggaa.Pure
