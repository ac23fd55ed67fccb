/- The plain law of the statement WordBack, for every input. -/
import Derived.Test.YtealjhngfhlpaaaPWordBackx3
import Derived.Laws.BitsAllLaws
namespace Go.Proofs.Ytealjhngfhlpaaa.Pure
open Go.RowKit Go.Proofs.Ytealjhngfhlpaaa.PWordBack Go.Proofs.YtealjhngfhlpaaaW.PrintWords Go.Proofs.YtealjhngfhlpaaaW.PrintLast Go.Proofs.YtealjhngfhlpaaaW.PrintMore
set_option linter.unusedVariables false
set_option linter.unusedSimpArgs false

/-! ### plain laws: numbers as bytes -/
theorem w64i {x : Int} (h0 : -9223372036854775808 ≤ x) (h1 : x ≤ 9223372036854775807) : wrap64 x = x := by unfold wrap64; omega
theorem u64i {x : Int} (h0 : 0 ≤ x) (h1 : x ≤ 18446744073709551615) : IntKind.u64.wrap x = x := by
  simp only [IntKind.wrap, IntKind.bits, IntKind.signed]
  simp
  omega
theorem rounds_ex {k m : Nat} (h : m + 1 ≤ k) : ∃ j, k = j + 1 ∧ m ≤ j := ⟨k - 1, by omega, by omega⟩
def byteAt (n : Int) (j : Nat) : Int := n / 2 ^ (8 * j) % 256
def lowL (n : Int) (s : Nat) : List Int := (List.range' 0 s).map (byteAt n)
theorem byteAt_succ (n : Int) (j : Nat) : byteAt (n / 256) j = byteAt n (j + 1) := by
  unfold byteAt
  rw [Int.ediv_ediv_of_nonneg (by decide), show (2 : Int) ^ (8 * (j + 1)) = 256 * 2 ^ (8 * j) by rw [show 8 * (j + 1) = 8 * j + 8 by omega, Int.pow_add]; omega]
theorem shr_byte (n : Int) (i : Nat) (hi : i ≤ 8) : shr .i64 n (8 * (i : Int)) = n / 2 ^ (8 * i) := by
  unfold shr
  rw [show (8 * (i : Int)).toNat = 8 * i by omega, Nat.min_eq_left (by simp [IntKind.bits]; omega)]
def lowBad (n s : Int) : Bool := decide (s < 1) || decide (s > 8) || decide (n < 0) || decide (n > 4611686018427387904) || (decide (s < 8) && decide (n / 2 ^ (8 * s.toNat) ≠ 0))
def lowS (n s : Int) : List Int × Int := if lowBad n s then ([], 2) else (lowL n s.toNat, 0)

theorem word_low_l0 (n : Int) (s : Nat) (hs : s ≤ 8) : ∀ (d k i : Nat) (l : List Int), i + d = s → l.length = s → d < k →
    word_Low.l0 k n l (s : Int) (i : Int) = some (l.take i ++ (List.range' i d).map (byteAt n), 0) := by
  intro d
  induction d with
  | zero =>
    intro k i l h1 h2 hk
    obtain ⟨k, rfl, _⟩ := rounds_ex (m := 0) (by omega : 0 + 1 ≤ k)
    simp only [word_Low.l0]
    rw [if_neg (by omega), List.take_of_length_le (by omega)]
    simp
  | succ d ih =>
    intro k i l h1 h2 hk
    obtain ⟨k, rfl, hk'⟩ := rounds_ex (m := d + 1) (by omega : d + 1 + 1 ≤ k)
    have e : IntKind.u64.wrap (wrap64 (8 * (i : Int))) = 8 * (i : Int) := by rw [w64i (by omega) (by omega), u64i (by omega) (by omega)]
    simp only [word_Low.l0]
    rw [if_pos (by omega), e, if_pos (by omega), if_pos (by omega), if_pos (by omega), w64i (by omega) (by omega), shr_byte n i (by omega)]
    have := ih k (i + 1) (l.set (i : Int).toNat (n / 2 ^ (8 * i) % 256)) (by omega) (by simpa using h2) (by omega)
    rw [show (((i + 1 : Nat)) : Int) = (i : Int) + 1 by omega] at this
    rw [this]
    have e2 : (i : Int).toNat = i := by omega
    rw [e2, List.range'_succ, List.map_cons, List.take_succ_eq_append_getElem (by simp; omega), List.getElem_set_self, List.take_set_of_le (Nat.le_refl _), List.append_assoc]
    rfl

theorem word_low_bad (k : Nat) (n s : Int) (hk : 1 ≤ k) : word_Low.j0 k n s true = some ([], 2) := by
  obtain ⟨k, rfl, _⟩ := rounds_ex (m := 0) (by omega : 0 + 1 ≤ k)
  simp [word_Low.j0]
theorem word_low_good (k : Nat) (n s : Int) (h1 : 1 ≤ s) (h2 : s ≤ 8) (hk : 12 ≤ k) : word_Low.j0 k n s false = some (lowL n s.toNat, 0) := by
  obtain ⟨k, rfl, hk⟩ := rounds_ex (m := 11) (by omega : 11 + 1 ≤ k)
  simp only [word_Low.j0]
  rw [if_neg (by simp), if_pos (by omega), if_pos (by omega)]
  simp only [Option.bind_some, List.length_replicate]
  have := word_low_l0 n s.toNat (by omega) s.toNat k 0 (List.replicate s.toNat 0) (by omega) (by simp) (by omega)
  rw [show ((0 : Nat) : Int) = 0 by rfl] at this
  rw [this]
  simp [lowL]
theorem word_low (n s : Int) (k : Nat) (hk : 12 ≤ k) : word_Low.f k n s = some (lowS n s) := by
  unfold word_Low.f lowS lowBad
  by_cases h1 : s < 1
  · rw [if_pos h1, word_low_bad k n s (by omega)]; simp [h1]
  by_cases h2 : s > 8
  · rw [if_neg h1, if_pos h2, word_low_bad k n s (by omega)]; simp [h2]
  by_cases h3 : n < 0
  · rw [if_neg h1, if_neg h2, if_pos h3, word_low_bad k n s (by omega)]; simp [h3]
  by_cases h4 : n > 4611686018427387904
  · rw [if_neg h1, if_neg h2, if_neg h3, if_pos h4, word_low_bad k n s (by omega)]; simp [h4]
  rw [if_neg h1, if_neg h2, if_neg h3, if_neg h4]
  by_cases h5 : s < 8
  · have e : IntKind.u64.wrap (wrap64 (8 * s)) = 8 * s := by rw [w64i (by omega) (by omega), u64i (by omega) (by omega)]
    rw [if_pos h5, e, if_pos (by omega)]
    have e2 := shr_byte n s.toNat (by omega)
    rw [show ((s.toNat : Nat) : Int) = s by omega] at e2
    rw [e2]
    by_cases h6 : n / 2 ^ (8 * s.toNat) = 0
    · rw [h6, show ((0 : Int) != 0) = false by rfl, word_low_good k n s (by omega) (by omega) hk]
      simp [h1, h2, h3, h4]
    · rw [show ((n / 2 ^ (8 * s.toNat)) != 0) = true by simpa using h6, word_low_bad k n s (by omega)]
      simp [h5, h6]
  · rw [if_neg h5, word_low_good k n s (by omega) (by omega) hk]
    simp [h1, h2, h3, h4, h5]
theorem lowL_length (n : Int) (s : Nat) : (lowL n s).length = s := by simp [lowL]
theorem lowS_length (n s : Int) : (lowS n s).1.length ≤ 8 := by
  unfold lowS
  split
  · simp
  · rename_i h
    simp [lowBad] at h
    simp [lowL_length]; omega
theorem word_put (n s : Int) (k : Nat) (hk : 12 ≤ k) : word_Put.f k n s = some ((lowS n s).1.reverse, (lowS n s).2) := by
  unfold word_Put.f
  rw [word_low n s k hk]
  simp only [Option.bind_some, word_turned_byte.f]
  have := lowS_length n s
  rw [if_pos (by omega)]
  rfl

/-! ### plain laws: are two lists one? -/
theorem rd_get (l : List Int) (i : Nat) (h : i < l.length) : rd l (i : Int) = l[i] := by
  unfold rd
  simp [List.getD, List.getElem?_eq_getElem h]
theorem same_l0 (a b : List Int) (hl : a.length = b.length) (hm : a.length ≤ 4611686018427387904) : ∀ (d k i : Nat), i + d = a.length → d < k →
    bastilleref01_Same.l0 k a b (i : Int) = some (decide (a.drop i = b.drop i)) := by
  intro d
  induction d with
  | zero =>
    intro k i h1 hk
    obtain ⟨k, rfl, _⟩ := rounds_ex (m := 0) (by omega : 0 + 1 ≤ k)
    simp only [bastilleref01_Same.l0]
    rw [if_neg (by omega), List.drop_of_length_le (by omega), List.drop_of_length_le (by omega)]
    simp
  | succ d ih =>
    intro k i h1 hk
    obtain ⟨k, rfl, hk'⟩ := rounds_ex (m := d + 1) (by omega : d + 1 + 1 ≤ k)
    simp only [bastilleref01_Same.l0]
    rw [if_pos (by omega), if_pos (by omega), if_pos (by omega), rd_get a i (by omega), rd_get b i (by omega), w64i (by omega) (by omega)]
    rw [List.drop_eq_getElem_cons (show i < a.length by omega), List.drop_eq_getElem_cons (show i < b.length by omega)]
    have := ih k (i + 1) (by omega) (by omega)
    rw [show (((i + 1 : Nat)) : Int) = (i : Int) + 1 by omega] at this
    by_cases h : a[i] = b[i]
    · rw [if_pos h, this]
      congr 1
      exact decide_eq_decide.mpr (by rw [h]; exact ⟨fun e => by rw [e], fun e => (List.cons.inj e).2⟩)
    · rw [if_neg h]
      exact congrArg some (decide_eq_false (fun e => h (List.cons.inj e).1)).symm
theorem same_ev (a b : List Int) (hm : a.length ≤ 4611686018427387904) (k : Nat) (hk : a.length + 1 ≤ k) : bastilleref01_Same.f k a b = some (decide (a = b)) := by
  unfold bastilleref01_Same.f
  by_cases h : a.length = b.length
  · rw [if_pos (by omega)]
    have := same_l0 a b h hm a.length k 0 (by omega) (by omega)
    simpa using this
  · rw [if_neg (by omega)]
    simp
    intro e
    exact h (by rw [e])
theorem same_refl (a : List Int) (hm : a.length ≤ 4611686018427387904) (k : Nat) (hk : a.length + 1 ≤ k) : bastilleref01_Same.f k a a = some true := by
  rw [same_ev a a hm k hk]; simp

/-! ### plain laws: bytes as numbers -/
def ByteOk (b : List Int) : Prop := ∀ x ∈ b, 0 ≤ x ∧ x ≤ 255
theorem byteOk_of {b : List Int} (h : ∀ x ∈ b, (Lit.int .u8 x).wf = true) : ByteOk b := by
  intro x hx
  have := h x hx
  simp [Lit.wf, IntKind.min, IntKind.max, IntKind.signed, IntKind.bits] at this
  omega
def numA (acc : Int) (b : List Int) : Int := b.foldl (fun x c => 256 * x + c) acc
def numL (b : List Int) : Int := numA 0 b
theorem numA_ge (b : List Int) : ∀ acc, 0 ≤ acc → ByteOk b → acc ≤ numA acc b := by
  induction b with
  | nil => intro acc _ _; exact Int.le_refl _
  | cons c t ih =>
    intro acc h0 hb
    have hc := hb c (by simp)
    have := ih (256 * acc + c) (by omega) (fun x hx => hb x (by simp [hx]))
    show acc ≤ numA (256 * acc + c) t
    omega
def getS (b : List Int) : Int × Int := if b.length = 0 then (0, 10) else if b.length > 8 then (0, 2) else if numL b > 4611686018427387904 then (0, 11) else (numL b, 0)
theorem pow7 (i : Nat) (h : i ≤ 7) : (256 : Int) ^ i ≤ 72057594037927936 := by
  obtain rfl | rfl | rfl | rfl | rfl | rfl | rfl | rfl : i = 0 ∨ i = 1 ∨ i = 2 ∨ i = 3 ∨ i = 4 ∨ i = 5 ∨ i = 6 ∨ i = 7 := by omega
  all_goals decide
theorem or_byte (a c : Int) (h0 : 0 ≤ a) (h1 : a ≤ 72057594037927935) (h2 : 0 ≤ c) (h3 : c ≤ 255) : Go.bits .or .u64 (IntKind.u64.wrap (a * 256)) (IntKind.u64.wrap c) = 256 * a + c := by
  obtain ⟨a, rfl⟩ := Int.eq_ofNat_of_zero_le h0
  obtain ⟨c, rfl⟩ := Int.eq_ofNat_of_zero_le h2
  rw [u64i (by omega) (by omega), u64i (by omega) (by omega)]
  have e : ((a : Int) * 256) = ((a * 256 : Nat) : Int) := by omega
  rw [e]
  refine (u64_or_nat (a * 256) c (by omega) (by omega)).trans ?_
  have := Nat.two_pow_add_eq_or_of_lt (i := 8) (b := c) (by omega) a
  rw [show a * 256 = 2 ^ 8 * a by omega, ← this]
  omega
theorem byteOk_reverse {b : List Int} (h : ByteOk b) : ByteOk b.reverse := fun x hx => h x (List.mem_reverse.1 hx)

/-! ### plain laws: the number of bytes -/
theorem word_get_l0 (b : List Int) (hb : ByteOk b) (hl : b.length ≤ 8) : ∀ (d k i : Nat) (acc : Int), i + d = b.length → 0 ≤ acc → acc < 256 ^ i → d < k →
    word_Get.l0 k acc b (b.length : Int) (i : Int) = some (if numA acc (b.drop i) > 4611686018427387904 then (0, 11) else (wrap64 (numA acc (b.drop i)), 0)) := by
  intro d
  induction d with
  | zero =>
    intro k i acc h1 h2 h3 hk
    obtain ⟨k, rfl, _⟩ := rounds_ex (m := 0) (by omega : 0 + 1 ≤ k)
    simp only [word_Get.l0]
    rw [if_neg (by omega), List.drop_of_length_le (by omega), show numA acc [] = acc from rfl]
    split <;> rfl
  | succ d ih =>
    intro k i acc h1 h2 h3 hk
    obtain ⟨k, rfl, hk'⟩ := rounds_ex (m := d + 1) (by omega : d + 1 + 1 ≤ k)
    have hc := hb b[i] (List.getElem_mem (by omega))
    have hp := pow7 i (by omega)
    simp only [word_Get.l0]
    rw [if_pos (by omega), if_pos (by omega), if_pos (by omega), rd_get b i (by omega), or_byte acc b[i] h2 (by omega) hc.1 hc.2, w64i (by omega) (by omega)]
    have := ih k (i + 1) (256 * acc + b[i]) (by omega) (by omega) (by rw [Int.pow_succ]; omega) (by omega)
    rw [show (((i + 1 : Nat)) : Int) = (i : Int) + 1 by omega] at this
    rw [this, List.drop_eq_getElem_cons (show i < b.length by omega)]
    rfl
theorem word_get (b : List Int) (hb : ByteOk b) (k : Nat) (hk : 10 ≤ k) : word_Get.f k b = some (getS b) := by
  unfold word_Get.f getS
  by_cases h1 : b.length = 0
  · rw [if_pos (by omega), if_pos h1]
  by_cases h2 : b.length > 8
  · rw [if_neg (by omega), if_pos (by omega), if_neg h1, if_pos h2]
  rw [if_neg (by omega), if_neg (by omega), if_neg h1, if_neg h2]
  have := word_get_l0 b hb (by omega) b.length k 0 0 (by omega) (by omega) (by decide) (by omega)
  rw [show ((0 : Nat) : Int) = 0 by rfl] at this
  rw [this, List.drop_zero]
  have h3 := numA_ge b 0 (by omega) hb
  show some (if numL b > _ then _ else _) = _
  have h4 : 0 ≤ numL b := h3
  by_cases h5 : numL b > 4611686018427387904
  · rw [if_pos h5, if_pos h5]
  · rw [if_neg h5, if_neg h5]
    show some (wrap64 (numL b), (0 : Int)) = _
    rw [w64i (by omega) (by omega)]

theorem word_getlow (b : List Int) (hb : ByteOk b) (k : Nat) (hk : 10 ≤ k) : word_GetLow.f k b = some (getS b.reverse) := by
  unfold word_GetLow.f
  by_cases h2 : b.length > 8
  · rw [if_pos (by omega)]
    unfold getS
    rw [List.length_reverse, if_neg (by omega), if_pos h2]
  · rw [if_neg (by omega)]
    unfold word_turned_byte.f
    rw [if_pos (by omega)]
    simp only [Option.bind_some]
    rw [word_get _ (byteOk_reverse hb) k hk]
    rfl

/-! ### plain laws: the reference's turning -/
theorem turned_l0 (b : List Int) (hb : b.length ≤ 4611686018427) : ∀ (i k : Nat) (l : List Int), i ≤ b.length → l.length + i ≤ b.length → i < k →
    bastilleref01_Turned.l0 k b l ((i : Int) - 1) = some (l ++ (b.take i).reverse) := by
  intro i
  induction i with
  | zero =>
    intro k l h1 h2 hk
    obtain ⟨k, rfl, _⟩ := rounds_ex (m := 0) (by omega : 0 + 1 ≤ k)
    simp only [bastilleref01_Turned.l0]
    rw [if_neg (by omega)]
    simp
  | succ i ih =>
    intro k l h1 h2 hk
    obtain ⟨k, rfl, hk'⟩ := rounds_ex (m := i + 1) (by omega : i + 1 + 1 ≤ k)
    simp only [bastilleref01_Turned.l0]
    rw [show (((i + 1 : Nat)) : Int) - 1 = (i : Int) by omega, if_pos (by omega), if_pos (by omega), if_pos (by omega), if_pos (by omega), w64i (by omega) (by omega), ih k _ (by omega) (by simp; omega) (by omega)]
    rw [rd_get b i (by omega), List.take_succ_eq_append_getElem (by omega), List.reverse_append]
    simp
theorem turned_ev (b : List Int) (hb : b.length ≤ 4611686018427) (k : Nat) (hk : b.length + 1 ≤ k) : bastilleref01_Turned.f k b = some b.reverse := by
  unfold bastilleref01_Turned.f
  rw [w64i (by omega) (by omega), turned_l0 b hb b.length k [] (by omega) (by simp) (by omega)]
  simp

/-! ### plain laws: there and back -/
theorem lowL_succ (n : Int) (s : Nat) : lowL n (s + 1) = n % 256 :: lowL (n / 256) s := by
  unfold lowL
  rw [List.range'_succ, List.map_cons]
  congr 1
  · simp [byteAt]
  · apply List.ext_getElem (by simp)
    intro j _ _
    simp only [List.getElem_map, List.getElem_range', Nat.one_mul, Nat.zero_add]
    rw [byteAt_succ, Nat.add_comm]
theorem numA_snoc (acc : Int) (l : List Int) (c : Int) : numA acc (l ++ [c]) = 256 * numA acc l + c := by simp [numA, List.foldl_append]
theorem num_low : ∀ (s : Nat) (n : Int), 0 ≤ n → n / 2 ^ (8 * s) = 0 → numL (lowL n s).reverse = n := by
  intro s
  induction s with
  | zero => intro n h0 h1; simp at h1; subst h1; rfl
  | succ s ih =>
    intro n h0 h1
    rw [lowL_succ, List.reverse_cons]
    unfold numL
    rw [numA_snoc]
    have := ih (n / 256) (by omega) (by rw [Int.ediv_ediv_of_nonneg (by decide), ← h1, show (2 : Int) ^ (8 * (s + 1)) = 256 * 2 ^ (8 * s) by rw [show 8 * (s + 1) = 8 * s + 8 by omega, Int.pow_add]; omega])
    unfold numL at this
    rw [this]
    omega
theorem low_num (r : List Int) : ByteOk r → lowL (numL r.reverse) r.length = r := by
  induction r with
  | nil => intro _; rfl
  | cons c t ih =>
    intro hb
    have hc := hb c (by simp)
    rw [List.length_cons, lowL_succ, List.reverse_cons]
    unfold numL
    rw [numA_snoc]
    rw [show (256 * numA 0 t.reverse + c) % 256 = c by omega, show (256 * numA 0 t.reverse + c) / 256 = numA 0 t.reverse by omega]
    rw [show numA 0 t.reverse = numL t.reverse from rfl, ih (fun x hx => hb x (by simp [hx]))]
theorem num_lt (r : List Int) : ByteOk r → 0 ≤ numL r.reverse ∧ numL r.reverse < 2 ^ (8 * r.length) := by
  induction r with
  | nil => intro _; exact ⟨by decide, by decide⟩
  | cons c t ih =>
    intro hb
    have hc := hb c (by simp)
    have := ih (fun x hx => hb x (by simp [hx]))
    rw [List.reverse_cons]
    unfold numL at *
    rw [numA_snoc, List.length_cons, show (2 : Int) ^ (8 * (t.length + 1)) = 256 * 2 ^ (8 * t.length) by rw [show 8 * (t.length + 1) = 8 * t.length + 8 by omega, Int.pow_add]; omega]
    omega
theorem byteOk_lowL (n : Int) (s : Nat) : ByteOk (lowL n s) := by
  intro x hx
  simp only [lowL, List.mem_map] at hx
  obtain ⟨j, _, rfl⟩ := hx
  unfold byteAt
  omega

theorem awake_ev (k : Nat) (hk : 20 ≤ k) : bastillelaw01_awake.f k = some true := at_rounds bastillelaw01_awake.mono hk (by decide +kernel)

theorem back_j0 (b : List Int) (hb : ByteOk b) (k : Nat) (hk : b.length + 20 ≤ k) (hm : b.length ≤ 100) : bastillelaw01_WordBack.j0 k b = some true := by
  obtain ⟨k, rfl, hk⟩ := rounds_ex hk
  simp only [bastillelaw01_WordBack.j0]
  rw [word_get b hb _ (by omega)]
  simp only [Option.bind_some]
  by_cases h1 : b.length = 0
  · simp [getS, h1]
  by_cases h2 : b.length > 8
  · simp [getS, h1, h2]
  by_cases h3 : numL b > 4611686018427387904
  · simp [getS, h1, h2, h3]
  have e : getS b = (numL b, 0) := by simp [getS, h1, h2, h3]
  rw [e]
  simp only [if_true]
  rw [word_put _ _ _ (by omega)]
  simp only [Option.bind_some]
  have hn := num_lt b.reverse (byteOk_reverse hb)
  have hl := low_num b.reverse (byteOk_reverse hb)
  rw [List.reverse_reverse, List.length_reverse] at hn hl
  have hq : numL b / 2 ^ (8 * b.length) = 0 := Int.ediv_eq_zero_of_lt hn.1 hn.2
  have e2 : lowS (numL b) (b.length : Int) = (b.reverse, 0) := by
    unfold lowS lowBad
    rw [Int.toNat_natCast, hl]
    simp
    omega
  rw [e2]
  simp only [List.reverse_reverse, if_true]
  rw [same_refl b (by omega) _ (by omega)]
  rfl
theorem WordBack : bastillelaw01_WordBack.Pure := by
  intro n s b _ _ _ _ hw
  have hb := byteOk_of hw
  refine ⟨b.length + 200, ?_⟩
  unfold bastillelaw01_WordBack.f
  rw [awake_ev _ (by omega)]
  simp only [Option.bind_some, if_true]
  by_cases h : (b.length : Int) > 100
  · rw [if_pos h]
  rw [if_neg h, word_put n s _ (by omega), word_low n s _ (by omega)]
  simp only [Option.bind_some]
  have hj := back_j0 b hb (b.length + 200) (by omega) (by omega)
  cases hB : lowBad n s with
  | true =>
    have e : lowS n s = ([], 2) := by unfold lowS; rw [hB]; rfl
    rw [e]
    simp only []
    rw [if_neg (by decide), hj]
  | false =>
    have e : lowS n s = (lowL n s.toNat, 0) := by unfold lowS; rw [hB]; rfl
    rw [e]
    have hB' := hB
    unfold lowBad at hB'
    simp at hB'
    simp only [if_true]
    have hq : n / 2 ^ (8 * s.toNat) = 0 := by
      by_cases h8 : s < 8
      · exact hB'.2 h8
      · have : s = 8 := by omega
        subst this
        rw [show (2 : Int) ^ (8 * (8 : Int).toNat) = 18446744073709551616 by rfl]; omega
    have hg : getS (lowL n s.toNat).reverse = (n, 0) := by
      unfold getS
      rw [List.length_reverse, lowL_length, if_neg (by omega), if_neg (by omega), num_low s.toNat n (by omega) hq, if_neg (by omega)]
    have hbl := byteOk_lowL n s.toNat
    rw [word_get _ (byteOk_reverse hbl) _ (by omega), word_getlow _ hbl _ (by omega)]
    simp only [Option.bind_some]
    rw [hg]
    simp only [if_true]
    rw [if_pos (by rw [List.length_reverse, lowL_length]; omega), turned_ev _ (by rw [List.length_reverse, lowL_length]; omega) _ (by rw [List.length_reverse, lowL_length]; omega)]
    simp only [Option.bind_some, List.reverse_reverse]
    rw [same_refl _ (by rw [lowL_length]; omega) _ (by rw [lowL_length]; omega)]
    simp only [Option.bind_some, if_true]
    exact hj

end Go.Proofs.Ytealjhngfhlpaaa.Pure
