/- The plain law of the statement WordPuts, for every input. -/
import Derived.Test.YtealjhngfhlpaaaPWordPutsx2
namespace Go.Proofs.Ytealjhngfhlpaaa.Pure
open Go.RowKit Go.Proofs.Ytealjhngfhlpaaa.PWordPuts Go.Proofs.YtealjhngfhlpaaaW.PrintWords Go.Proofs.YtealjhngfhlpaaaW.PrintLast Go.Proofs.YtealjhngfhlpaaaW.PrintMore
set_option linter.unusedVariables false
set_option linter.unusedSimpArgs false

/-! ### plain laws: numbers as bytes -/
theorem w64i {x : Int} (h0 : -9223372036854775808 ≤ x) (h1 : x ≤ 9223372036854775807) : wrap64 x = x := by unfold wrap64; omega
theorem u64i {x : Int} (h0 : 0 ≤ x) (h1 : x ≤ 18446744073709551615) : IntKind.u64.wrap x = x := by
  simp only [IntKind.wrap, IntKind.bits, IntKind.signed]
  simp
  omega
theorem rounds_ex {k m : Nat} (h : m + 1 ≤ k) : ∃ j, k = j + 1 ∧ m ≤ j := ⟨k - 1, by omega, by omega⟩
def byteAt (n : Int) (j : Nat) : Int := n / 2 ^ (8 * j) % 256
def lowL (n : Int) (s : Nat) : List Int := (List.range' 0 s).map (byteAt n)
theorem byteAt_succ (n : Int) (j : Nat) : byteAt (n / 256) j = byteAt n (j + 1) := by
  unfold byteAt
  rw [Int.ediv_ediv_of_nonneg (by decide), show (2 : Int) ^ (8 * (j + 1)) = 256 * 2 ^ (8 * j) by rw [show 8 * (j + 1) = 8 * j + 8 by omega, Int.pow_add]; omega]
theorem shr_byte (n : Int) (i : Nat) (hi : i ≤ 8) : shr .i64 n (8 * (i : Int)) = n / 2 ^ (8 * i) := by
  unfold shr
  rw [show (8 * (i : Int)).toNat = 8 * i by omega, Nat.min_eq_left (by simp [IntKind.bits]; omega)]
def lowBad (n s : Int) : Bool := decide (s < 1) || decide (s > 8) || decide (n < 0) || decide (n > 4611686018427387904) || (decide (s < 8) && decide (n / 2 ^ (8 * s.toNat) ≠ 0))
def lowS (n s : Int) : List Int × Int := if lowBad n s then ([], 2) else (lowL n s.toNat, 0)

theorem word_low_l0 (n : Int) (s : Nat) (hs : s ≤ 8) : ∀ (d k i : Nat) (l : List Int), i + d = s → l.length = s → d < k →
    word_Low.l0 k n l (s : Int) (i : Int) = some (l.take i ++ (List.range' i d).map (byteAt n), 0) := by
  intro d
  induction d with
  | zero =>
    intro k i l h1 h2 hk
    obtain ⟨k, rfl, _⟩ := rounds_ex (m := 0) (by omega : 0 + 1 ≤ k)
    simp only [word_Low.l0]
    rw [if_neg (by omega), List.take_of_length_le (by omega)]
    simp
  | succ d ih =>
    intro k i l h1 h2 hk
    obtain ⟨k, rfl, hk'⟩ := rounds_ex (m := d + 1) (by omega : d + 1 + 1 ≤ k)
    have e : IntKind.u64.wrap (wrap64 (8 * (i : Int))) = 8 * (i : Int) := by rw [w64i (by omega) (by omega), u64i (by omega) (by omega)]
    simp only [word_Low.l0]
    rw [if_pos (by omega), e, if_pos (by omega), if_pos (by omega), if_pos (by omega), w64i (by omega) (by omega), shr_byte n i (by omega)]
    have := ih k (i + 1) (l.set (i : Int).toNat (n / 2 ^ (8 * i) % 256)) (by omega) (by simpa using h2) (by omega)
    rw [show (((i + 1 : Nat)) : Int) = (i : Int) + 1 by omega] at this
    rw [this]
    have e2 : (i : Int).toNat = i := by omega
    rw [e2, List.range'_succ, List.map_cons, List.take_succ_eq_append_getElem (by simp; omega), List.getElem_set_self, List.take_set_of_le (Nat.le_refl _), List.append_assoc]
    rfl

theorem word_low_bad (k : Nat) (n s : Int) (hk : 1 ≤ k) : word_Low.j0 k n s true = some ([], 2) := by
  obtain ⟨k, rfl, _⟩ := rounds_ex (m := 0) (by omega : 0 + 1 ≤ k)
  simp [word_Low.j0]
theorem word_low_good (k : Nat) (n s : Int) (h1 : 1 ≤ s) (h2 : s ≤ 8) (hk : 12 ≤ k) : word_Low.j0 k n s false = some (lowL n s.toNat, 0) := by
  obtain ⟨k, rfl, hk⟩ := rounds_ex (m := 11) (by omega : 11 + 1 ≤ k)
  simp only [word_Low.j0]
  rw [if_neg (by simp), if_pos (by omega), if_pos (by omega)]
  simp only [Option.bind_some, List.length_replicate]
  have := word_low_l0 n s.toNat (by omega) s.toNat k 0 (List.replicate s.toNat 0) (by omega) (by simp) (by omega)
  rw [show ((0 : Nat) : Int) = 0 by rfl] at this
  rw [this]
  simp [lowL]
theorem word_low (n s : Int) (k : Nat) (hk : 12 ≤ k) : word_Low.f k n s = some (lowS n s) := by
  unfold word_Low.f lowS lowBad
  by_cases h1 : s < 1
  · rw [if_pos h1, word_low_bad k n s (by omega)]; simp [h1]
  by_cases h2 : s > 8
  · rw [if_neg h1, if_pos h2, word_low_bad k n s (by omega)]; simp [h2]
  by_cases h3 : n < 0
  · rw [if_neg h1, if_neg h2, if_pos h3, word_low_bad k n s (by omega)]; simp [h3]
  by_cases h4 : n > 4611686018427387904
  · rw [if_neg h1, if_neg h2, if_neg h3, if_pos h4, word_low_bad k n s (by omega)]; simp [h4]
  rw [if_neg h1, if_neg h2, if_neg h3, if_neg h4]
  by_cases h5 : s < 8
  · have e : IntKind.u64.wrap (wrap64 (8 * s)) = 8 * s := by rw [w64i (by omega) (by omega), u64i (by omega) (by omega)]
    rw [if_pos h5, e, if_pos (by omega)]
    have e2 := shr_byte n s.toNat (by omega)
    rw [show ((s.toNat : Nat) : Int) = s by omega] at e2
    rw [e2]
    by_cases h6 : n / 2 ^ (8 * s.toNat) = 0
    · rw [h6, show ((0 : Int) != 0) = false by rfl, word_low_good k n s (by omega) (by omega) hk]
      simp [h1, h2, h3, h4]
    · rw [show ((n / 2 ^ (8 * s.toNat)) != 0) = true by simpa using h6, word_low_bad k n s (by omega)]
      simp [h5, h6]
  · rw [if_neg h5, word_low_good k n s (by omega) (by omega) hk]
    simp [h1, h2, h3, h4, h5]
theorem lowL_length (n : Int) (s : Nat) : (lowL n s).length = s := by simp [lowL]
theorem lowS_length (n s : Int) : (lowS n s).1.length ≤ 8 := by
  unfold lowS
  split
  · simp
  · rename_i h
    simp [lowBad] at h
    simp [lowL_length]; omega
theorem word_put (n s : Int) (k : Nat) (hk : 12 ≤ k) : word_Put.f k n s = some ((lowS n s).1.reverse, (lowS n s).2) := by
  unfold word_Put.f
  rw [word_low n s k hk]
  simp only [Option.bind_some, word_turned_byte.f]
  have := lowS_length n s
  rw [if_pos (by omega)]
  rfl

/-! ### plain laws: are two lists one? -/
theorem rd_get (l : List Int) (i : Nat) (h : i < l.length) : rd l (i : Int) = l[i] := by
  unfold rd
  simp [List.getD, List.getElem?_eq_getElem h]
theorem same_l0 (a b : List Int) (hl : a.length = b.length) (hm : a.length ≤ 4611686018427387904) : ∀ (d k i : Nat), i + d = a.length → d < k →
    bastilleref01_Same.l0 k a b (i : Int) = some (decide (a.drop i = b.drop i)) := by
  intro d
  induction d with
  | zero =>
    intro k i h1 hk
    obtain ⟨k, rfl, _⟩ := rounds_ex (m := 0) (by omega : 0 + 1 ≤ k)
    simp only [bastilleref01_Same.l0]
    rw [if_neg (by omega), List.drop_of_length_le (by omega), List.drop_of_length_le (by omega)]
    simp
  | succ d ih =>
    intro k i h1 hk
    obtain ⟨k, rfl, hk'⟩ := rounds_ex (m := d + 1) (by omega : d + 1 + 1 ≤ k)
    simp only [bastilleref01_Same.l0]
    rw [if_pos (by omega), if_pos (by omega), if_pos (by omega), rd_get a i (by omega), rd_get b i (by omega), w64i (by omega) (by omega)]
    rw [List.drop_eq_getElem_cons (show i < a.length by omega), List.drop_eq_getElem_cons (show i < b.length by omega)]
    have := ih k (i + 1) (by omega) (by omega)
    rw [show (((i + 1 : Nat)) : Int) = (i : Int) + 1 by omega] at this
    by_cases h : a[i] = b[i]
    · rw [if_pos h, this]
      congr 1
      exact decide_eq_decide.mpr (by rw [h]; exact ⟨fun e => by rw [e], fun e => (List.cons.inj e).2⟩)
    · rw [if_neg h]
      exact congrArg some (decide_eq_false (fun e => h (List.cons.inj e).1)).symm
theorem same_ev (a b : List Int) (hm : a.length ≤ 4611686018427387904) (k : Nat) (hk : a.length + 1 ≤ k) : bastilleref01_Same.f k a b = some (decide (a = b)) := by
  unfold bastilleref01_Same.f
  by_cases h : a.length = b.length
  · rw [if_pos (by omega)]
    have := same_l0 a b h hm a.length k 0 (by omega) (by omega)
    simpa using this
  · rw [if_neg (by omega)]
    simp
    intro e
    exact h (by rw [e])
theorem same_refl (a : List Int) (hm : a.length ≤ 4611686018427387904) (k : Nat) (hk : a.length + 1 ≤ k) : bastilleref01_Same.f k a a = some true := by
  rw [same_ev a a hm k hk]; simp

/-! ### plain laws: the reference's bytes -/
theorem rlow_l0 (s : Nat) (hs : s ≤ 8) : ∀ (d k i : Nat) (n : Int) (l : List Int), i + d = s → l.length ≤ 8 → 0 ≤ n → n ≤ 4611686018427387904 → l.length = i → d < k →
    bastilleref01_Low.l0 k n (s : Int) l (i : Int) = some (if n / 2 ^ (8 * d) > 0 then ([], 2) else (l ++ (List.range' 0 d).map (byteAt n), 0)) := by
  intro d
  induction d with
  | zero =>
    intro k i n l h1 h2 h3 h4 h5 hk
    obtain ⟨k, rfl, _⟩ := rounds_ex (m := 0) (by omega : 0 + 1 ≤ k)
    simp only [bastilleref01_Low.l0]
    rw [if_neg (by omega)]
    simp
    split <;> rfl
  | succ d ih =>
    intro k i n l h1 h2 h3 h4 h5 hk
    obtain ⟨k, rfl, hk'⟩ := rounds_ex (m := d + 1) (by omega : d + 1 + 1 ≤ k)
    simp only [bastilleref01_Low.l0]
    have e1 : Int.tdiv n 256 = n / 256 := Int.tdiv_eq_ediv_of_nonneg h3
    have e2 : Int.tmod n 256 = n % 256 := Int.tmod_eq_emod_of_nonneg h3
    rw [if_pos (by omega), if_pos (by omega), e1, e2, w64i (by omega) (by omega), w64i (by omega) (by omega)]
    have := ih k (i + 1) (n / 256) (l ++ [n % 256 % 256]) (by omega) (by simp; omega) (by omega) (by omega) (by simp; omega) (by omega)
    rw [show (((i + 1 : Nat)) : Int) = (i : Int) + 1 by omega] at this
    rw [this]
    have e3 : n / 256 / 2 ^ (8 * d) = n / 2 ^ (8 * (d + 1)) := by
      rw [Int.ediv_ediv_of_nonneg (by decide), show (2 : Int) ^ (8 * (d + 1)) = 256 * 2 ^ (8 * d) by rw [show 8 * (d + 1) = 8 * d + 8 by omega, Int.pow_add]; omega]
    have e4 : (l ++ [n % 256 % 256]) ++ (List.range' 0 d).map (byteAt (n / 256)) = l ++ (List.range' 0 (d + 1)).map (byteAt n) := by
      rw [List.append_assoc, List.range'_succ, List.map_cons]
      congr 1
      rw [List.singleton_append]
      congr 1
      · simp [byteAt]
      · apply List.ext_getElem (by simp)
        intro j _ _
        simp only [List.getElem_map, List.getElem_range', Nat.one_mul, Nat.zero_add]
        rw [byteAt_succ, Nat.add_comm]
    rw [e3, e4]
theorem rlow_bad (k : Nat) (n s : Int) (hk : 1 ≤ k) : bastilleref01_Low.j0 k n s true = some ([], 2) := by
  obtain ⟨k, rfl, _⟩ := rounds_ex (m := 0) (by omega : 0 + 1 ≤ k)
  simp [bastilleref01_Low.j0]
theorem rlow (n s : Int) (k : Nat) (hk : 12 ≤ k) : bastilleref01_Low.f k n s = some (lowS n s) := by
  unfold bastilleref01_Low.f lowS lowBad
  by_cases h1 : s < 1
  · rw [if_pos h1, rlow_bad k n s (by omega)]; simp [h1]
  by_cases h2 : s > 8
  · rw [if_neg h1, if_pos h2, rlow_bad k n s (by omega)]; simp [h2]
  by_cases h3 : n < 0
  · rw [if_neg h1, if_neg h2, if_pos h3, rlow_bad k n s (by omega)]; simp [h3]
  by_cases h4 : n > 4611686018427387904
  · rw [if_neg h1, if_neg h2, if_neg h3, show decide (n > 4611686018427387904) = true by simpa using h4, rlow_bad k n s (by omega)]; simp [h4]
  rw [if_neg h1, if_neg h2, if_neg h3, show decide (n > 4611686018427387904) = false by simpa using h4]
  obtain ⟨k, rfl, hk'⟩ := rounds_ex (m := 11) (by omega : 11 + 1 ≤ k)
  simp only [bastilleref01_Low.j0]
  rw [if_neg (by simp)]
  have := rlow_l0 s.toNat (by omega) s.toNat k 0 n [] (by omega) (by simp) (by omega) (by omega) (by simp) (by omega)
  rw [show ((s.toNat : Nat) : Int) = s by omega, show ((0 : Nat) : Int) = 0 by rfl] at this
  rw [this]
  have hq : 0 ≤ n / 2 ^ (8 * s.toNat) := Int.ediv_nonneg (by omega) (by exact_mod_cast Nat.zero_le _)
  by_cases h5 : s < 8
  · by_cases h6 : n / 2 ^ (8 * s.toNat) = 0
    · simp [h1, h2, h3, h4, h6, lowL]
    · rw [if_pos (by omega)]; simp [h5, h6]
  · have h8 : s = 8 := by omega
    subst h8
    have h9 : n / 2 ^ (8 * (8 : Int).toNat) = 0 := by
      rw [show (2 : Int) ^ (8 * (8 : Int).toNat) = 18446744073709551616 by rfl]; omega
    rw [if_neg (by omega)]
    simp [h3, h4, lowL]
theorem turned_l0 (b : List Int) (hb : b.length ≤ 4611686018427) : ∀ (i k : Nat) (l : List Int), i ≤ b.length → l.length + i ≤ b.length → i < k →
    bastilleref01_Turned.l0 k b l ((i : Int) - 1) = some (l ++ (b.take i).reverse) := by
  intro i
  induction i with
  | zero =>
    intro k l h1 h2 hk
    obtain ⟨k, rfl, _⟩ := rounds_ex (m := 0) (by omega : 0 + 1 ≤ k)
    simp only [bastilleref01_Turned.l0]
    rw [if_neg (by omega)]
    simp
  | succ i ih =>
    intro k l h1 h2 hk
    obtain ⟨k, rfl, hk'⟩ := rounds_ex (m := i + 1) (by omega : i + 1 + 1 ≤ k)
    simp only [bastilleref01_Turned.l0]
    rw [show (((i + 1 : Nat)) : Int) - 1 = (i : Int) by omega, if_pos (by omega), if_pos (by omega), if_pos (by omega), if_pos (by omega), w64i (by omega) (by omega), ih k _ (by omega) (by simp; omega) (by omega)]
    rw [rd_get b i (by omega), List.take_succ_eq_append_getElem (by omega), List.reverse_append]
    simp
theorem turned_ev (b : List Int) (hb : b.length ≤ 4611686018427) (k : Nat) (hk : b.length + 1 ≤ k) : bastilleref01_Turned.f k b = some b.reverse := by
  unfold bastilleref01_Turned.f
  rw [w64i (by omega) (by omega), turned_l0 b hb b.length k [] (by omega) (by simp) (by omega)]
  simp

theorem rput (n s : Int) (k : Nat) (hk : 12 ≤ k) : bastilleref01_Put.f k n s = some ((lowS n s).1.reverse, (lowS n s).2) := by
  unfold bastilleref01_Put.f
  rw [rlow n s k hk]
  have := lowS_length n s
  simp only [Option.bind_some]
  rw [turned_ev _ (by omega) k (by omega)]
  rfl

theorem awake_ev (k : Nat) (hk : 20 ≤ k) : bastillelaw01_awake.f k = some true := at_rounds bastillelaw01_awake.mono hk (by decide +kernel)

theorem WordPuts : bastillelaw01_WordPuts.Pure := by
  intro n s _ _
  refine ⟨20, ?_⟩
  have hl := lowS_length n s
  unfold bastillelaw01_WordPuts.f
  rw [awake_ev 20 (by omega), word_put n s 20 (by omega), word_low n s 20 (by omega), rput n s 20 (by omega), rlow n s 20 (by omega)]
  simp only [Option.bind_some, if_true]
  rw [same_refl _ (by simp; omega) 20 (by simp; omega), same_refl _ (by omega) 20 (by omega)]
  simp

end Go.Proofs.Ytealjhngfhlpaaa.Pure
