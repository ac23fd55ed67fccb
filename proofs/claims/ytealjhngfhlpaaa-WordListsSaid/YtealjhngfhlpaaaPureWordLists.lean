/- The plain law of the statement WordLists, for every input. -/
import Derived.Test.YtealjhngfhlpaaaPWordListsx4
import Derived.Laws.BitsAllLaws
import Derived.Laws.BitsAllLaws
namespace Go.Proofs.Ytealjhngfhlpaaa.Pure
open Go.RowKit Go.Proofs.Ytealjhngfhlpaaa.PWordLists Go.Proofs.YtealjhngfhlpaaaW.PrintWords Go.Proofs.YtealjhngfhlpaaaW.PrintLast Go.Proofs.YtealjhngfhlpaaaW.PrintMore
set_option linter.unusedVariables false
set_option linter.unusedSimpArgs false

/-! ### plain laws: numbers as bytes -/
theorem w64i {x : Int} (h0 : -9223372036854775808 ≤ x) (h1 : x ≤ 9223372036854775807) : wrap64 x = x := by unfold wrap64; omega
theorem u64i {x : Int} (h0 : 0 ≤ x) (h1 : x ≤ 18446744073709551615) : IntKind.u64.wrap x = x := by
  simp only [IntKind.wrap, IntKind.bits, IntKind.signed]
  simp
  omega
theorem rounds_ex {k m : Nat} (h : m + 1 ≤ k) : ∃ j, k = j + 1 ∧ m ≤ j := ⟨k - 1, by omega, by omega⟩
def byteAt (n : Int) (j : Nat) : Int := n / 2 ^ (8 * j) % 256
def lowL (n : Int) (s : Nat) : List Int := (List.range' 0 s).map (byteAt n)
theorem byteAt_succ (n : Int) (j : Nat) : byteAt (n / 256) j = byteAt n (j + 1) := by
  unfold byteAt
  rw [Int.ediv_ediv_of_nonneg (by decide), show (2 : Int) ^ (8 * (j + 1)) = 256 * 2 ^ (8 * j) by rw [show 8 * (j + 1) = 8 * j + 8 by omega, Int.pow_add]; omega]
theorem shr_byte (n : Int) (i : Nat) (hi : i ≤ 8) : shr .i64 n (8 * (i : Int)) = n / 2 ^ (8 * i) := by
  unfold shr
  rw [show (8 * (i : Int)).toNat = 8 * i by omega, Nat.min_eq_left (by simp [IntKind.bits]; omega)]
def lowBad (n s : Int) : Bool := decide (s < 1) || decide (s > 8) || decide (n < 0) || decide (n > 4611686018427387904) || (decide (s < 8) && decide (n / 2 ^ (8 * s.toNat) ≠ 0))
def lowS (n s : Int) : List Int × Int := if lowBad n s then ([], 2) else (lowL n s.toNat, 0)

theorem word_low_l0 (n : Int) (s : Nat) (hs : s ≤ 8) : ∀ (d k i : Nat) (l : List Int), i + d = s → l.length = s → d < k →
    word_Low.l0 k n l (s : Int) (i : Int) = some (l.take i ++ (List.range' i d).map (byteAt n), 0) := by
  intro d
  induction d with
  | zero =>
    intro k i l h1 h2 hk
    obtain ⟨k, rfl, _⟩ := rounds_ex (m := 0) (by omega : 0 + 1 ≤ k)
    simp only [word_Low.l0]
    rw [if_neg (by omega), List.take_of_length_le (by omega)]
    simp
  | succ d ih =>
    intro k i l h1 h2 hk
    obtain ⟨k, rfl, hk'⟩ := rounds_ex (m := d + 1) (by omega : d + 1 + 1 ≤ k)
    have e : IntKind.u64.wrap (wrap64 (8 * (i : Int))) = 8 * (i : Int) := by rw [w64i (by omega) (by omega), u64i (by omega) (by omega)]
    simp only [word_Low.l0]
    rw [if_pos (by omega), e, if_pos (by omega), if_pos (by omega), if_pos (by omega), w64i (by omega) (by omega), shr_byte n i (by omega)]
    have := ih k (i + 1) (l.set (i : Int).toNat (n / 2 ^ (8 * i) % 256)) (by omega) (by simpa using h2) (by omega)
    rw [show (((i + 1 : Nat)) : Int) = (i : Int) + 1 by omega] at this
    rw [this]
    have e2 : (i : Int).toNat = i := by omega
    rw [e2, List.range'_succ, List.map_cons, List.take_succ_eq_append_getElem (by simp; omega), List.getElem_set_self, List.take_set_of_le (Nat.le_refl _), List.append_assoc]
    rfl

theorem word_low_bad (k : Nat) (n s : Int) (hk : 1 ≤ k) : word_Low.j0 k n s true = some ([], 2) := by
  obtain ⟨k, rfl, _⟩ := rounds_ex (m := 0) (by omega : 0 + 1 ≤ k)
  simp [word_Low.j0]
theorem word_low_good (k : Nat) (n s : Int) (h1 : 1 ≤ s) (h2 : s ≤ 8) (hk : 12 ≤ k) : word_Low.j0 k n s false = some (lowL n s.toNat, 0) := by
  obtain ⟨k, rfl, hk⟩ := rounds_ex (m := 11) (by omega : 11 + 1 ≤ k)
  simp only [word_Low.j0]
  rw [if_neg (by simp), if_pos (by omega), if_pos (by omega)]
  simp only [Option.bind_some, List.length_replicate]
  have := word_low_l0 n s.toNat (by omega) s.toNat k 0 (List.replicate s.toNat 0) (by omega) (by simp) (by omega)
  rw [show ((0 : Nat) : Int) = 0 by rfl] at this
  rw [this]
  simp [lowL]
theorem word_low (n s : Int) (k : Nat) (hk : 12 ≤ k) : word_Low.f k n s = some (lowS n s) := by
  unfold word_Low.f lowS lowBad
  by_cases h1 : s < 1
  · rw [if_pos h1, word_low_bad k n s (by omega)]; simp [h1]
  by_cases h2 : s > 8
  · rw [if_neg h1, if_pos h2, word_low_bad k n s (by omega)]; simp [h2]
  by_cases h3 : n < 0
  · rw [if_neg h1, if_neg h2, if_pos h3, word_low_bad k n s (by omega)]; simp [h3]
  by_cases h4 : n > 4611686018427387904
  · rw [if_neg h1, if_neg h2, if_neg h3, if_pos h4, word_low_bad k n s (by omega)]; simp [h4]
  rw [if_neg h1, if_neg h2, if_neg h3, if_neg h4]
  by_cases h5 : s < 8
  · have e : IntKind.u64.wrap (wrap64 (8 * s)) = 8 * s := by rw [w64i (by omega) (by omega), u64i (by omega) (by omega)]
    rw [if_pos h5, e, if_pos (by omega)]
    have e2 := shr_byte n s.toNat (by omega)
    rw [show ((s.toNat : Nat) : Int) = s by omega] at e2
    rw [e2]
    by_cases h6 : n / 2 ^ (8 * s.toNat) = 0
    · rw [h6, show ((0 : Int) != 0) = false by rfl, word_low_good k n s (by omega) (by omega) hk]
      simp [h1, h2, h3, h4]
    · rw [show ((n / 2 ^ (8 * s.toNat)) != 0) = true by simpa using h6, word_low_bad k n s (by omega)]
      simp [h5, h6]
  · rw [if_neg h5, word_low_good k n s (by omega) (by omega) hk]
    simp [h1, h2, h3, h4, h5]
theorem lowL_length (n : Int) (s : Nat) : (lowL n s).length = s := by simp [lowL]
theorem lowS_length (n s : Int) : (lowS n s).1.length ≤ 8 := by
  unfold lowS
  split
  · simp
  · rename_i h
    simp [lowBad] at h
    simp [lowL_length]; omega
theorem word_put (n s : Int) (k : Nat) (hk : 12 ≤ k) : word_Put.f k n s = some ((lowS n s).1.reverse, (lowS n s).2) := by
  unfold word_Put.f
  rw [word_low n s k hk]
  simp only [Option.bind_some, word_turned_byte.f]
  have := lowS_length n s
  rw [if_pos (by omega)]
  rfl

/-! ### plain laws: are two lists one? -/
theorem rd_get (l : List Int) (i : Nat) (h : i < l.length) : rd l (i : Int) = l[i] := by
  unfold rd
  simp [List.getD, List.getElem?_eq_getElem h]
theorem same_l0 (a b : List Int) (hl : a.length = b.length) (hm : a.length ≤ 4611686018427387904) : ∀ (d k i : Nat), i + d = a.length → d < k →
    bastilleref01_Same.l0 k a b (i : Int) = some (decide (a.drop i = b.drop i)) := by
  intro d
  induction d with
  | zero =>
    intro k i h1 hk
    obtain ⟨k, rfl, _⟩ := rounds_ex (m := 0) (by omega : 0 + 1 ≤ k)
    simp only [bastilleref01_Same.l0]
    rw [if_neg (by omega), List.drop_of_length_le (by omega), List.drop_of_length_le (by omega)]
    simp
  | succ d ih =>
    intro k i h1 hk
    obtain ⟨k, rfl, hk'⟩ := rounds_ex (m := d + 1) (by omega : d + 1 + 1 ≤ k)
    simp only [bastilleref01_Same.l0]
    rw [if_pos (by omega), if_pos (by omega), if_pos (by omega), rd_get a i (by omega), rd_get b i (by omega), w64i (by omega) (by omega)]
    rw [List.drop_eq_getElem_cons (show i < a.length by omega), List.drop_eq_getElem_cons (show i < b.length by omega)]
    have := ih k (i + 1) (by omega) (by omega)
    rw [show (((i + 1 : Nat)) : Int) = (i : Int) + 1 by omega] at this
    by_cases h : a[i] = b[i]
    · rw [if_pos h, this]
      congr 1
      exact decide_eq_decide.mpr (by rw [h]; exact ⟨fun e => by rw [e], fun e => (List.cons.inj e).2⟩)
    · rw [if_neg h]
      exact congrArg some (decide_eq_false (fun e => h (List.cons.inj e).1)).symm
theorem same_ev (a b : List Int) (hm : a.length ≤ 4611686018427387904) (k : Nat) (hk : a.length + 1 ≤ k) : bastilleref01_Same.f k a b = some (decide (a = b)) := by
  unfold bastilleref01_Same.f
  by_cases h : a.length = b.length
  · rw [if_pos (by omega)]
    have := same_l0 a b h hm a.length k 0 (by omega) (by omega)
    simpa using this
  · rw [if_neg (by omega)]
    simp
    intro e
    exact h (by rw [e])
theorem same_refl (a : List Int) (hm : a.length ≤ 4611686018427387904) (k : Nat) (hk : a.length + 1 ≤ k) : bastilleref01_Same.f k a a = some true := by
  rw [same_ev a a hm k hk]; simp

/-! ### plain laws: bytes as numbers -/
def ByteOk (b : List Int) : Prop := ∀ x ∈ b, 0 ≤ x ∧ x ≤ 255
theorem byteOk_of {b : List Int} (h : ∀ x ∈ b, (Lit.int .u8 x).wf = true) : ByteOk b := by
  intro x hx
  have := h x hx
  simp [Lit.wf, IntKind.min, IntKind.max, IntKind.signed, IntKind.bits] at this
  omega
def numA (acc : Int) (b : List Int) : Int := b.foldl (fun x c => 256 * x + c) acc
def numL (b : List Int) : Int := numA 0 b
theorem numA_ge (b : List Int) : ∀ acc, 0 ≤ acc → ByteOk b → acc ≤ numA acc b := by
  induction b with
  | nil => intro acc _ _; exact Int.le_refl _
  | cons c t ih =>
    intro acc h0 hb
    have hc := hb c (by simp)
    have := ih (256 * acc + c) (by omega) (fun x hx => hb x (by simp [hx]))
    show acc ≤ numA (256 * acc + c) t
    omega
def getS (b : List Int) : Int × Int := if b.length = 0 then (0, 10) else if b.length > 8 then (0, 2) else if numL b > 4611686018427387904 then (0, 11) else (numL b, 0)
theorem pow7 (i : Nat) (h : i ≤ 7) : (256 : Int) ^ i ≤ 72057594037927936 := by
  obtain rfl | rfl | rfl | rfl | rfl | rfl | rfl | rfl : i = 0 ∨ i = 1 ∨ i = 2 ∨ i = 3 ∨ i = 4 ∨ i = 5 ∨ i = 6 ∨ i = 7 := by omega
  all_goals decide
theorem or_byte (a c : Int) (h0 : 0 ≤ a) (h1 : a ≤ 72057594037927935) (h2 : 0 ≤ c) (h3 : c ≤ 255) : Go.bits .or .u64 (IntKind.u64.wrap (a * 256)) (IntKind.u64.wrap c) = 256 * a + c := by
  obtain ⟨a, rfl⟩ := Int.eq_ofNat_of_zero_le h0
  obtain ⟨c, rfl⟩ := Int.eq_ofNat_of_zero_le h2
  rw [u64i (by omega) (by omega), u64i (by omega) (by omega)]
  have e : ((a : Int) * 256) = ((a * 256 : Nat) : Int) := by omega
  rw [e]
  refine (u64_or_nat (a * 256) c (by omega) (by omega)).trans ?_
  have := Nat.two_pow_add_eq_or_of_lt (i := 8) (b := c) (by omega) a
  rw [show a * 256 = 2 ^ 8 * a by omega, ← this]
  omega
theorem byteOk_reverse {b : List Int} (h : ByteOk b) : ByteOk b.reverse := fun x hx => h x (List.mem_reverse.1 hx)

/-! ### plain laws: the reference's turning -/
theorem turned_l0 (b : List Int) (hb : b.length ≤ 4611686018427) : ∀ (i k : Nat) (l : List Int), i ≤ b.length → l.length + i ≤ b.length → i < k →
    bastilleref01_Turned.l0 k b l ((i : Int) - 1) = some (l ++ (b.take i).reverse) := by
  intro i
  induction i with
  | zero =>
    intro k l h1 h2 hk
    obtain ⟨k, rfl, _⟩ := rounds_ex (m := 0) (by omega : 0 + 1 ≤ k)
    simp only [bastilleref01_Turned.l0]
    rw [if_neg (by omega)]
    simp
  | succ i ih =>
    intro k l h1 h2 hk
    obtain ⟨k, rfl, hk'⟩ := rounds_ex (m := i + 1) (by omega : i + 1 + 1 ≤ k)
    simp only [bastilleref01_Turned.l0]
    rw [show (((i + 1 : Nat)) : Int) - 1 = (i : Int) by omega, if_pos (by omega), if_pos (by omega), if_pos (by omega), if_pos (by omega), w64i (by omega) (by omega), ih k _ (by omega) (by simp; omega) (by omega)]
    rw [rd_get b i (by omega), List.take_succ_eq_append_getElem (by omega), List.reverse_append]
    simp
theorem turned_ev (b : List Int) (hb : b.length ≤ 4611686018427) (k : Nat) (hk : b.length + 1 ≤ k) : bastilleref01_Turned.f k b = some b.reverse := by
  unfold bastilleref01_Turned.f
  rw [w64i (by omega) (by omega), turned_l0 b hb b.length k [] (by omega) (by simp) (by omega)]
  simp

/-! ### plain laws: there and back -/
theorem lowL_succ (n : Int) (s : Nat) : lowL n (s + 1) = n % 256 :: lowL (n / 256) s := by
  unfold lowL
  rw [List.range'_succ, List.map_cons]
  congr 1
  · simp [byteAt]
  · apply List.ext_getElem (by simp)
    intro j _ _
    simp only [List.getElem_map, List.getElem_range', Nat.one_mul, Nat.zero_add]
    rw [byteAt_succ, Nat.add_comm]
theorem numA_snoc (acc : Int) (l : List Int) (c : Int) : numA acc (l ++ [c]) = 256 * numA acc l + c := by simp [numA, List.foldl_append]
theorem num_low : ∀ (s : Nat) (n : Int), 0 ≤ n → n / 2 ^ (8 * s) = 0 → numL (lowL n s).reverse = n := by
  intro s
  induction s with
  | zero => intro n h0 h1; simp at h1; subst h1; rfl
  | succ s ih =>
    intro n h0 h1
    rw [lowL_succ, List.reverse_cons]
    unfold numL
    rw [numA_snoc]
    have := ih (n / 256) (by omega) (by rw [Int.ediv_ediv_of_nonneg (by decide), ← h1, show (2 : Int) ^ (8 * (s + 1)) = 256 * 2 ^ (8 * s) by rw [show 8 * (s + 1) = 8 * s + 8 by omega, Int.pow_add]; omega])
    unfold numL at this
    rw [this]
    omega
theorem low_num (r : List Int) : ByteOk r → lowL (numL r.reverse) r.length = r := by
  induction r with
  | nil => intro _; rfl
  | cons c t ih =>
    intro hb
    have hc := hb c (by simp)
    rw [List.length_cons, lowL_succ, List.reverse_cons]
    unfold numL
    rw [numA_snoc]
    rw [show (256 * numA 0 t.reverse + c) % 256 = c by omega, show (256 * numA 0 t.reverse + c) / 256 = numA 0 t.reverse by omega]
    rw [show numA 0 t.reverse = numL t.reverse from rfl, ih (fun x hx => hb x (by simp [hx]))]
theorem num_lt (r : List Int) : ByteOk r → 0 ≤ numL r.reverse ∧ numL r.reverse < 2 ^ (8 * r.length) := by
  induction r with
  | nil => intro _; exact ⟨by decide, by decide⟩
  | cons c t ih =>
    intro hb
    have hc := hb c (by simp)
    have := ih (fun x hx => hb x (by simp [hx]))
    rw [List.reverse_cons]
    unfold numL at *
    rw [numA_snoc, List.length_cons, show (2 : Int) ^ (8 * (t.length + 1)) = 256 * 2 ^ (8 * t.length) by rw [show 8 * (t.length + 1) = 8 * t.length + 8 by omega, Int.pow_add]; omega]
    omega
theorem byteOk_lowL (n : Int) (s : Nat) : ByteOk (lowL n s) := by
  intro x hx
  simp only [lowL, List.mem_map] at hx
  obtain ⟨j, _, rfl⟩ := hx
  unfold byteAt
  omega

/-! ### plain laws: lists of numbers of 32 and of 64 bits -/
def w32 (l : List Int) : Int := rd l 0 + 256 * rd l 1 + 65536 * rd l 2 + 16777216 * rd l 3
def W32 : Nat → List Int → List Int
  | 0, _ => []
  | n + 1, l => w32 l :: W32 n (l.drop 4)
def W64 : Nat → List Int → List Int
  | 0, _ => []
  | n + 1, l => numL (l.take 8) :: W64 n (l.drop 8)
theorem W32_length : ∀ n l, (W32 n l).length = n
  | 0, _ => rfl
  | n + 1, l => by simp [W32, W32_length n]
theorem W64_length : ∀ n l, (W64 n l).length = n
  | 0, _ => rfl
  | n + 1, l => by simp [W64, W64_length n]
theorem byteOk_drop {b : List Int} (h : ByteOk b) (n : Nat) : ByteOk (b.drop n) := fun x hx => h x (List.mem_of_mem_drop hx)
theorem byteOk_take {b : List Int} (h : ByteOk b) (n : Nat) : ByteOk (b.take n) := fun x hx => h x (List.mem_of_mem_take hx)
theorem rd_ok {b : List Int} (h : ByteOk b) (i : Nat) : 0 ≤ rd b (i : Int) ∧ rd b (i : Int) ≤ 255 := by
  by_cases hi : i < b.length
  · rw [rd_get b i hi]; exact h _ (List.getElem_mem hi)
  · unfold rd
    rw [show (i : Int).toNat = i by omega, List.getD_eq_getElem?_getD, List.getElem?_eq_none (by omega)]
    simp
theorem or4 (a b c d : Int) (ha : 0 ≤ a ∧ a ≤ 255) (hb : 0 ≤ b ∧ b ≤ 255) (hc : 0 ≤ c ∧ c ≤ 255) (hd : 0 ≤ d ∧ d ≤ 255) :
    Go.bits .or .u32 (Go.bits .or .u32 (Go.bits .or .u32 (a % 4294967296) (((b % 4294967296) * 256) % 4294967296)) (((c % 4294967296) * 65536) % 4294967296)) (((d % 4294967296) * 16777216) % 4294967296) = a + 256 * b + 65536 * c + 16777216 * d := by
  obtain ⟨a, rfl⟩ := Int.eq_ofNat_of_zero_le ha.1
  obtain ⟨b, rfl⟩ := Int.eq_ofNat_of_zero_le hb.1
  obtain ⟨c, rfl⟩ := Int.eq_ofNat_of_zero_le hc.1
  obtain ⟨d, rfl⟩ := Int.eq_ofNat_of_zero_le hd.1
  rw [show ((a : Int) % 4294967296) = ((a : Nat) : Int) by omega, show ((((b : Int) % 4294967296) * 256) % 4294967296) = ((2 ^ 8 * b : Nat) : Int) by omega,
    show ((((c : Int) % 4294967296) * 65536) % 4294967296) = ((2 ^ 16 * c : Nat) : Int) by omega, show ((((d : Int) % 4294967296) * 16777216) % 4294967296) = ((2 ^ 24 * d : Nat) : Int) by omega]
  rw [u32_or_nat a (2 ^ 8 * b) (by omega) (by omega), Nat.or_comm a, ← Nat.two_pow_add_eq_or_of_lt (i := 8) (b := a) (by omega) b,
    u32_or_nat (2 ^ 8 * b + a) (2 ^ 16 * c) (by omega) (by omega), Nat.or_comm (2 ^ 8 * b + a), ← Nat.two_pow_add_eq_or_of_lt (i := 16) (b := 2 ^ 8 * b + a) (by omega) c,
    u32_or_nat (2 ^ 16 * c + (2 ^ 8 * b + a)) (2 ^ 24 * d) (by omega) (by omega), Nat.or_comm (2 ^ 16 * c + (2 ^ 8 * b + a)), ← Nat.two_pow_add_eq_or_of_lt (i := 24) (b := 2 ^ 16 * c + (2 ^ 8 * b + a)) (by omega) d]
  omega
theorem words32_l0 : ∀ (n k : Nat) (b acc : List Int), ByteOk b → b.length = 4 * n → acc.length + n ≤ 1000000 → n < k →
    word_Words32.l0 k b acc = some (acc ++ W32 n b, 0) := by
  intro n
  induction n with
  | zero =>
    intro k b acc hb hl ha hk
    obtain ⟨k, rfl, _⟩ := rounds_ex (m := 0) (by omega : 0 + 1 ≤ k)
    simp only [word_Words32.l0]
    rw [if_neg (by omega)]
    simp [W32]
  | succ n ih =>
    intro k b acc hb hl ha hk
    obtain ⟨k, rfl, hk'⟩ := rounds_ex (m := n + 1) (by omega : n + 1 + 1 ≤ k)
    simp only [word_Words32.l0]
    rw [if_pos (by omega), if_pos (by omega), if_pos (by omega), if_pos (by omega), if_pos (by omega), if_pos (by omega), if_pos (by omega),
      or4 (rd b 0) (rd b 1) (rd b 2) (rd b 3) (rd_ok hb 0) (rd_ok hb 1) (rd_ok hb 2) (rd_ok hb 3), ih k _ _ (byteOk_drop hb 4) (by simp; omega) (by simp; omega) (by omega)]
    rw [List.append_assoc]
    rfl
theorem words32 (b : List Int) (hb : ByteOk b) (hm : b.length ≤ 1000) (k : Nat) (hk : b.length + 1 ≤ k) :
    word_Words32.f k b = some (if b.length % 4 = 0 then (W32 (b.length / 4) b, 0) else ([], 2)) := by
  unfold word_Words32.f
  by_cases h : b.length % 4 = 0
  · rw [if_pos (by omega), if_pos h, words32_l0 (b.length / 4) k b [] hb (by omega) (by simp; omega) (by omega)]
    simp
  · rw [if_neg (by omega), if_neg h]
theorem words64_l1 (b8 : List Int) (hb : ByteOk b8) (h8 : b8.length = 8) (x0 x4 : List Int) : ∀ (d k i : Nat) (acc : Int), i + d = 8 → 0 ≤ acc → acc < 256 ^ i → d < k →
    ∃ k', k' + d + 1 = k ∧ word_Words64.l1 k x0 x4 acc b8 8 (i : Int) = (if x4.length < 17592186044416 then (if 8 ≤ (x0.length : Int) then (word_Words64.l0 k' (x0.drop 8) (x4 ++ [numA acc (b8.drop i)])) else (none)) else (none)) := by
  intro d
  induction d with
  | zero =>
    intro k i acc h1 h2 h3 hk
    obtain ⟨k, rfl, _⟩ := rounds_ex (m := 0) (by omega : 0 + 1 ≤ k)
    refine ⟨k, by omega, ?_⟩
    simp only [word_Words64.l1]
    rw [if_neg (by omega), show b8.drop i = [] from List.drop_of_length_le (by omega), show numA acc [] = acc from rfl]
  | succ d ih =>
    intro k i acc h1 h2 h3 hk
    obtain ⟨k, rfl, hk'⟩ := rounds_ex (m := d + 1) (by omega : d + 1 + 1 ≤ k)
    have hc := hb b8[i] (List.getElem_mem (by omega))
    have hp := pow7 i (by omega)
    obtain ⟨k', hk2, this⟩ := ih k (i + 1) (256 * acc + b8[i]) (by omega) (by omega) (by rw [Int.pow_succ]; omega) (by omega)
    refine ⟨k', by omega, ?_⟩
    simp only [word_Words64.l1]
    rw [if_pos (by omega), if_pos (by omega), if_pos (by omega), rd_get b8 i (by omega), or_byte acc b8[i] h2 (by omega) hc.1 hc.2, w64i (by omega) (by omega)]
    rw [show (((i + 1 : Nat)) : Int) = (i : Int) + 1 by omega] at this
    rw [this, List.drop_eq_getElem_cons (show i < b8.length by omega)]
    rfl
theorem words64_l0 : ∀ (n k : Nat) (b acc : List Int), ByteOk b → b.length = 8 * n → acc.length + n ≤ 1000000 → 10 * n < k →
    word_Words64.l0 k b acc = some (acc ++ W64 n b, 0) := by
  intro n
  induction n with
  | zero =>
    intro k b acc hb hl ha hk
    obtain ⟨k, rfl, _⟩ := rounds_ex (m := 0) (by omega : 0 + 1 ≤ k)
    simp only [word_Words64.l0]
    rw [if_neg (by omega)]
    simp [W64]
  | succ n ih =>
    intro k b acc hb hl ha hk
    obtain ⟨k, rfl, hk'⟩ := rounds_ex (m := 10 * n + 10) (by omega : 10 * n + 10 + 1 ≤ k)
    simp only [word_Words64.l0]
    rw [if_pos (by omega), if_pos (by omega)]
    simp only [Option.bind_some]
    have h8 : (b.take 8).length = 8 := by simp; omega
    obtain ⟨k', hk2, h⟩ := words64_l1 (b.take 8) (byteOk_take hb 8) h8 b acc 8 k 0 0 (by omega) (by omega) (by decide) (by omega)
    rw [show ((0 : Nat) : Int) = 0 by rfl] at h
    rw [h8, show ((8 : Nat) : Int) = 8 by rfl, h, if_pos (by omega), if_pos (by omega), ih k' _ _ (byteOk_drop hb 8) (by simp; omega) (by simp; omega) (by omega)]
    rw [List.append_assoc]
    rfl
theorem words64 (b : List Int) (hb : ByteOk b) (hm : b.length ≤ 1000) (k : Nat) (hk : 2 * b.length + 20 ≤ k) :
    word_Words64.f k b = some (if b.length % 8 = 0 then (W64 (b.length / 8) b, 0) else ([], 2)) := by
  unfold word_Words64.f
  by_cases h : b.length % 8 = 0
  · rw [if_pos (by omega), if_pos h, words64_l0 (b.length / 8) k b [] hb (by omega) (by simp; omega) (by omega)]
    simp
  · rw [if_neg (by omega), if_neg h]
theorem wide_l0 (b : List Int) (hb : ByteOk b) (hl : b.length ≤ 8) : ∀ (d k i : Nat) (acc : Int), i + d = b.length → 0 ≤ acc → acc < 256 ^ i → d < k →
    bastilleref01_Wide.l0 k b acc (i : Int) = some (numA acc (b.drop i)) := by
  intro d
  induction d with
  | zero =>
    intro k i acc h1 h2 h3 hk
    obtain ⟨k, rfl, _⟩ := rounds_ex (m := 0) (by omega : 0 + 1 ≤ k)
    simp only [bastilleref01_Wide.l0]
    rw [if_neg (by omega), List.drop_of_length_le (by omega), show numA acc [] = acc from rfl]
  | succ d ih =>
    intro k i acc h1 h2 h3 hk
    obtain ⟨k, rfl, hk'⟩ := rounds_ex (m := d + 1) (by omega : d + 1 + 1 ≤ k)
    have hc := hb b[i] (List.getElem_mem (by omega))
    have hp := pow7 i (by omega)
    simp only [bastilleref01_Wide.l0]
    rw [if_pos (by omega), if_pos (by omega), rd_get b i (by omega), u64i (x := b[i]) (by omega) (by omega), u64i (x := 256 * acc) (by omega) (by omega), u64i (by omega) (by omega), w64i (by omega) (by omega)]
    have := ih k (i + 1) (256 * acc + b[i]) (by omega) (by omega) (by rw [Int.pow_succ]; omega) (by omega)
    rw [show (((i + 1 : Nat)) : Int) = (i : Int) + 1 by omega] at this
    rw [this, List.drop_eq_getElem_cons (show i < b.length by omega)]
    rfl
theorem wide (b : List Int) (hb : ByteOk b) (hl : b.length ≤ 8) (k : Nat) (hk : 9 ≤ k) : bastilleref01_Wide.f k b = some (numL b) := by
  unfold bastilleref01_Wide.f
  have := wide_l0 b hb hl b.length k 0 0 (by omega) (by omega) (by decide) (by omega)
  rw [List.drop_zero] at this
  exact this
theorem take4 (b : List Int) (h : 4 ≤ b.length) : b.take 4 = [rd b 0, rd b 1, rd b 2, rd b 3] := by
  match b, h with
  | a0 :: a1 :: a2 :: a3 :: t, _ => rfl
theorem w32_num (b : List Int) (h : 4 ≤ b.length) : numL (b.take 4).reverse = w32 b := by
  rw [take4 b h]
  simp [numL, numA, w32]
  omega
theorem W32_get : ∀ (n i : Nat) (b : List Int), i < n → (W32 n b)[i]? = some (w32 (b.drop (4 * i)))
  | 0, i, b, h => absurd h (Nat.not_lt_zero i)
  | n + 1, 0, b, h => by simp [W32]
  | n + 1, i + 1, b, h => by
    simp only [W32, List.getElem?_cons_succ]
    rw [W32_get n i (b.drop 4) (by omega), List.drop_drop, show 4 + 4 * i = 4 * (i + 1) by omega]
theorem W64_get : ∀ (n i : Nat) (b : List Int), i < n → (W64 n b)[i]? = some (numL ((b.drop (8 * i)).take 8))
  | 0, i, b, h => absurd h (Nat.not_lt_zero i)
  | n + 1, 0, b, h => by simp [W64]
  | n + 1, i + 1, b, h => by
    simp only [W64, List.getElem?_cons_succ]
    rw [W64_get n i (b.drop 8) (by omega), List.drop_drop, show 8 + 8 * i = 8 * (i + 1) by omega]
theorem rd_of {l : List Int} {i : Nat} {x : Int} (h : l[i]? = some x) : rd l (i : Int) = x := by
  unfold rd
  rw [show (i : Int).toNat = i by omega, List.getD_eq_getElem?_getD, h]
  rfl
theorem bytes4 (b : List Int) (hb : ByteOk b) (h : 4 ≤ b.length) : [w32 b % 256, w32 b / 256 % 256, w32 b / 65536 % 256, w32 b / 16777216 % 256] = b.take 4 := by
  rw [take4 b h]
  have h0 := rd_ok hb 0
  have h1 := rd_ok hb 1
  have h2 := rd_ok hb 2
  have h3 := rd_ok hb 3
  rw [show ((0 : Nat) : Int) = 0 by rfl] at h0
  rw [show ((1 : Nat) : Int) = 1 by rfl] at h1
  rw [show ((2 : Nat) : Int) = 2 by rfl] at h2
  rw [show ((3 : Nat) : Int) = 3 by rfl] at h3
  unfold w32
  congr 1
  · omega
  congr 1
  · omega
  congr 1
  · omega
  congr 1
  omega
theorem bytes32_l0 (L b : List Int) (n : Nat) (hb : ByteOk b) (hl : b.length = 4 * n) (hL : L = W32 n b) (hn : n ≤ 1000) : ∀ (d k i : Nat), i + d = n → d < k →
    word_Bytes32.l0 k (b.take (4 * i)) L (n : Int) (i : Int) = some b := by
  intro d
  induction d with
  | zero =>
    intro k i h1 hk
    obtain ⟨k, rfl, _⟩ := rounds_ex (m := 0) (by omega : 0 + 1 ≤ k)
    simp only [word_Bytes32.l0]
    rw [if_neg (by omega), List.take_of_length_le (by omega)]
  | succ d ih =>
    intro k i h1 hk
    obtain ⟨k, rfl, hk'⟩ := rounds_ex (m := d + 1) (by omega : d + 1 + 1 ≤ k)
    have hL' : L.length = n := by rw [hL, W32_length]
    have hr : rd L (i : Int) = w32 (b.drop (4 * i)) := rd_of (by rw [hL]; exact W32_get n i b (by omega))
    simp only [word_Bytes32.l0]
    rw [if_pos (by omega), if_pos (by omega), if_pos (by omega)]
    simp only [Option.bind_some]
    rw [hr, bytes4 _ (byteOk_drop hb _) (by simp; omega), if_pos (by simp; omega), w64i (by omega) (by omega)]
    have := ih k (i + 1) (by omega) (by omega)
    rw [show (((i + 1 : Nat)) : Int) = (i : Int) + 1 by omega] at this
    rw [← List.take_add, show 4 * i + 4 = 4 * (i + 1) by omega]
    exact this
theorem bytes32 (b : List Int) (n : Nat) (hb : ByteOk b) (hl : b.length = 4 * n) (hn : n ≤ 1000) (k : Nat) (hk : n + 1 ≤ k) : word_Bytes32.f k (W32 n b) = some b := by
  unfold word_Bytes32.f
  rw [W32_length]
  have := bytes32_l0 (W32 n b) b n hb hl rfl hn n k 0 (by omega) (by omega)
  simpa using this
theorem byte_num (r : List Int) (j : Nat) (hb : ByteOk r) (hj : j < r.length) : byteAt (numL r.reverse) j = r[j] := by
  have h := low_num r hb
  have h2 : (lowL (numL r.reverse) r.length)[j]'(by rw [lowL_length]; exact hj) = byteAt (numL r.reverse) j := by simp [lowL]
  rw [← h2]
  congr 1
theorem shr_u64 (x : Int) (j : Nat) (hj : j ≤ 7) : shr .u64 x (8 * (j : Int)) = x / 2 ^ (8 * j) := by
  unfold shr
  rw [show (8 * (j : Int)).toNat = 8 * j by omega, Nat.min_eq_left (by simp [IntKind.bits]; omega)]
theorem bytes64_l1 (b8 : List Int) (hb : ByteOk b8) (h8 : b8.length = 8) (L : List Int) (m p : Int) : ∀ (d k : Nat) (acc : List Int), d ≤ 8 → acc.length + d ≤ 100000 → d < k →
    ∃ k', k' + d + 1 = k ∧ word_Bytes64.l1 k acc (numL b8) (8 * (d : Int) - 8) L m p = word_Bytes64.l0 k' (acc ++ b8.drop (8 - d)) L m (wrap64 (p + 1)) := by
  intro d
  induction d with
  | zero =>
    intro k acc h1 h2 hk
    obtain ⟨k, rfl, _⟩ := rounds_ex (m := 0) (by omega : 0 + 1 ≤ k)
    refine ⟨k, by omega, ?_⟩
    simp only [word_Bytes64.l1]
    rw [if_neg (by omega), List.drop_of_length_le (by omega), List.append_nil]
  | succ d ih =>
    intro k acc h1 h2 hk
    obtain ⟨k, rfl, hk'⟩ := rounds_ex (m := d + 1) (by omega : d + 1 + 1 ≤ k)
    obtain ⟨k', hk2, this⟩ := ih k (acc ++ [b8[7 - d]]) (by omega) (by simp; omega) (by omega)
    refine ⟨k', by omega, ?_⟩
    simp only [word_Bytes64.l1]
    have eu : IntKind.u64.wrap (8 * (d : Int)) = 8 * (d : Int) := u64i (by omega) (by omega)
    rw [show (8 * (((d + 1 : Nat)) : Int) - 8) = 8 * (d : Int) by omega, eu, if_pos (by omega), if_pos (by omega), if_pos (by omega), shr_u64 _ d (by omega), w64i (by omega) (by omega)]
    have hbt : numL b8 / 2 ^ (8 * d) % 256 = b8[7 - d] := by
      have := byte_num b8.reverse d (byteOk_reverse hb) (by rw [List.length_reverse]; omega)
      rw [List.reverse_reverse] at this
      unfold byteAt at this
      rw [this, List.getElem_reverse]
      congr 1
      omega
    rw [hbt, this, List.append_assoc]
    congr 1
    rw [show 8 - (d + 1) = 7 - d by omega, List.drop_eq_getElem_cons (show 7 - d < b8.length by omega), show 7 - d + 1 = 8 - d by omega]
    rfl
theorem bytes64_l0 (L b : List Int) (n : Nat) (hb : ByteOk b) (hl : b.length = 8 * n) (hL : L = W64 n b) (hn : n ≤ 1000) : ∀ (d k i : Nat), i + d = n → 10 * d < k →
    word_Bytes64.l0 k (b.take (8 * i)) L (n : Int) (i : Int) = some b := by
  intro d
  induction d with
  | zero =>
    intro k i h1 hk
    obtain ⟨k, rfl, _⟩ := rounds_ex (m := 0) (by omega : 0 + 1 ≤ k)
    simp only [word_Bytes64.l0]
    rw [if_neg (by omega), List.take_of_length_le (by omega)]
  | succ d ih =>
    intro k i h1 hk
    obtain ⟨k, rfl, hk'⟩ := rounds_ex (m := 10 * d + 10) (by omega : 10 * d + 10 + 1 ≤ k)
    have hL' : L.length = n := by rw [hL, W64_length]
    have hr : rd L (i : Int) = numL ((b.drop (8 * i)).take 8) := rd_of (by rw [hL]; exact W64_get n i b (by omega))
    simp only [word_Bytes64.l0]
    rw [if_pos (by omega), if_pos (by omega), if_pos (by omega), hr]
    have h8 : ((b.drop (8 * i)).take 8).length = 8 := by simp; omega
    obtain ⟨k', hk2, h⟩ := bytes64_l1 ((b.drop (8 * i)).take 8) (byteOk_take (byteOk_drop hb _) _) h8 L (n : Int) (i : Int) 8 k (b.take (8 * i)) (by omega) (by simp; omega) (by omega)
    rw [show (8 * ((8 : Nat) : Int) - 8) = 56 by rfl] at h
    rw [h, w64i (by omega) (by omega), Nat.sub_self, List.drop_zero, ← List.take_add, show 8 * i + 8 = 8 * (i + 1) by omega]
    have := ih k' (i + 1) (by omega) (by omega)
    rw [show (((i + 1 : Nat)) : Int) = (i : Int) + 1 by omega] at this
    exact this
theorem bytes64 (b : List Int) (n : Nat) (hb : ByteOk b) (hl : b.length = 8 * n) (hn : n ≤ 1000) (k : Nat) (hk : 10 * n + 1 ≤ k) : word_Bytes64.f k (W64 n b) = some b := by
  unfold word_Bytes64.f
  rw [W64_length]
  have := bytes64_l0 (W64 n b) b n hb hl rfl hn n k 0 (by omega) (by omega)
  simpa using this

theorem awake_ev (k : Nat) (hk : 20 ≤ k) : bastillelaw01_awake.f k = some true := at_rounds bastillelaw01_awake.mono hk (by decide +kernel)

theorem slice_eq (b : List Int) (m i : Nat) (hi : m * i + m ≤ b.length) : (b.take (m * i + m)).drop (m * i) = (b.drop (m * i)).take m := by
  rw [List.drop_take]
  congr 1
  omega
theorem lists_l1 (b : List Int) (n : Nat) (hb : ByteOk b) (hl : b.length = 8 * n) (hn : n ≤ 1000) : ∀ (d k i : Nat), i + d = n → d + 20 < k →
    bastillelaw01_WordLists.l1 k b (W64 n b) (n : Int) (i : Int) = some true := by
  intro d
  induction d with
  | zero =>
    intro k i h1 hk
    obtain ⟨k, rfl, _⟩ := rounds_ex (m := 20) (by omega : 20 + 1 ≤ k)
    simp only [bastillelaw01_WordLists.l1]
    rw [if_neg (by omega)]
  | succ d ih =>
    intro k i h1 hk
    obtain ⟨k, rfl, hk'⟩ := rounds_ex (m := d + 21) (by omega : d + 21 + 1 ≤ k)
    have hr : rd (W64 n b) (i : Int) = numL ((b.drop (8 * i)).take 8) := rd_of (W64_get n i b (by omega))
    simp only [bastillelaw01_WordLists.l1]
    rw [w64i (x := 8 * (i : Int)) (by omega) (by omega), w64i (x := 8 * (i : Int) + 8) (by omega) (by omega), if_pos (by omega), if_pos (by omega), if_pos (by rw [W64_length]; omega), if_pos (by omega), if_pos (by omega), if_pos (by omega)]
    rw [show (8 * (i : Int) + 8).toNat = 8 * i + 8 by omega, show (8 * (i : Int)).toNat = 8 * i by omega, slice_eq b 8 i (by omega), wide _ (byteOk_take (byteOk_drop hb _) _) (by simp; omega) _ (by omega)]
    simp only [Option.bind_some]
    rw [hr, if_pos rfl, w64i (by omega) (by omega)]
    have := ih k (i + 1) (by omega) (by omega)
    rw [show (((i + 1 : Nat)) : Int) = (i : Int) + 1 by omega] at this
    exact this
def lists64 (b : List Int) : List Int × Int := if b.length % 8 = 0 then (W64 (b.length / 8) b, 0) else ([], 2)
def lists32 (b : List Int) : List Int := if b.length % 4 = 0 then W32 (b.length / 4) b else []
theorem lists_end (b L : List Int) (hb : ByteOk b) (hm : b.length ≤ 200) (k : Nat) (m i : Int) (hk : 2 * b.length + 100 ≤ k) (hi : ¬ i < m) :
    bastillelaw01_WordLists.l0 k b (lists64 b).1 (lists64 b).2 L m i = some true := by
  obtain ⟨k, rfl, hk'⟩ := rounds_ex hk
  simp only [bastillelaw01_WordLists.l0]
  rw [if_neg hi]
  unfold lists64
  by_cases h : b.length % 8 = 0
  · rw [if_pos (by omega), if_pos h]
    simp only [if_true]
    rw [W64_length, w64i (by omega) (by omega), if_pos (by omega), bytes64 b _ hb (by omega) (by omega) _ (by omega)]
    simp only [Option.bind_some]
    rw [same_refl b (by omega) _ (by omega)]
    simp only [Option.bind_some, Bool.not_true]
    obtain ⟨k, rfl, hk'⟩ := rounds_ex hk'
    simp only [bastillelaw01_WordLists.j2]
    rw [if_neg (by decide), W64_length]
    exact lists_l1 b _ hb (by omega) (by omega) (b.length / 8) k 0 (by omega) (by omega)
  · rw [if_neg (by omega), if_neg h]
    simp
theorem lists_l0 (b : List Int) (n : Nat) (hb : ByteOk b) (hl : b.length = 4 * n) (hn : n ≤ 50) : ∀ (d k i : Nat), i + d = n → d + 2 * b.length + 200 ≤ k →
    bastillelaw01_WordLists.l0 k b (lists64 b).1 (lists64 b).2 (W32 n b) (n : Int) (i : Int) = some true := by
  intro d
  induction d with
  | zero =>
    intro k i h1 hk
    exact lists_end b _ hb (by omega) k _ _ (by omega) (by omega)
  | succ d ih =>
    intro k i h1 hk
    obtain ⟨k, rfl, hk'⟩ := rounds_ex (m := d + 2 * b.length + 200) (by omega : d + 2 * b.length + 200 + 1 ≤ k)
    have hr : rd (W32 n b) (i : Int) = w32 (b.drop (4 * i)) := rd_of (W32_get n i b (by omega))
    have hw : 0 ≤ w32 (b.drop (4 * i)) ∧ w32 (b.drop (4 * i)) ≤ 4294967295 := by
      have h0 := rd_ok (byteOk_drop hb (4 * i)) 0
      have h1 := rd_ok (byteOk_drop hb (4 * i)) 1
      have h2 := rd_ok (byteOk_drop hb (4 * i)) 2
      have h3 := rd_ok (byteOk_drop hb (4 * i)) 3
      rw [show ((0 : Nat) : Int) = 0 by rfl] at h0
      rw [show ((1 : Nat) : Int) = 1 by rfl] at h1
      rw [show ((2 : Nat) : Int) = 2 by rfl] at h2
      rw [show ((3 : Nat) : Int) = 3 by rfl] at h3
      unfold w32
      omega
    simp only [bastillelaw01_WordLists.l0]
    rw [w64i (x := 4 * (i : Int)) (by omega) (by omega), w64i (x := 4 * (i : Int) + 4) (by omega) (by omega), if_pos (by omega), if_pos (by omega), if_pos (by rw [W32_length]; omega), if_pos (by omega), if_pos (by omega), if_pos (by omega)]
    rw [show (4 * (i : Int) + 4).toNat = 4 * i + 4 by omega, show (4 * (i : Int)).toNat = 4 * i by omega, slice_eq b 4 i (by omega), turned_ev _ (by simp; omega) _ (by simp; omega)]
    simp only [Option.bind_some]
    rw [wide _ (byteOk_reverse (byteOk_take (byteOk_drop hb _) _)) (by simp; omega) _ (by omega)]
    simp only [Option.bind_some]
    rw [hr, w32_num _ (by simp; omega), u64i (by omega) (by omega), if_pos rfl, w64i (by omega) (by omega)]
    have := ih k (i + 1) (by omega) (by omega)
    rw [show (((i + 1 : Nat)) : Int) = (i : Int) + 1 by omega] at this
    exact this
theorem WordLists : bastillelaw01_WordLists.Pure := by
  intro b _ _ hw
  have hb := byteOk_of hw
  refine ⟨2 * b.length + 1000, ?_⟩
  unfold bastillelaw01_WordLists.f
  rw [awake_ev _ (by omega)]
  simp only [Option.bind_some, if_true]
  by_cases h : (b.length : Int) > 200
  · rw [if_pos h]
  rw [if_neg h, words32 b hb (by omega) _ (by omega), words64 b hb (by omega) _ (by omega)]
  simp only [Option.bind_some]
  by_cases h4 : b.length % 4 = 0
  · rw [if_pos (by omega), if_pos h4]
    simp only [if_true]
    rw [W32_length, w64i (by omega) (by omega), if_pos (by omega), bytes32 b _ hb (by omega) (by omega) _ (by omega)]
    simp only [Option.bind_some]
    rw [same_refl b (by omega) _ (by omega)]
    simp only [Option.bind_some, if_true]
    obtain ⟨k, hk, hk'⟩ := rounds_ex (show 2 * b.length + 999 + 1 ≤ 2 * b.length + 1000 by omega)
    rw [hk]
    simp only [bastillelaw01_WordLists.j0]
    rw [W32_length]
    exact lists_l0 b _ hb (by omega) (by omega) (b.length / 4) k 0 (by omega) (by omega)
  · rw [if_neg (by omega), if_neg h4]
    simp only [if_true, List.length_nil]
    rw [if_neg (by omega)]
    obtain ⟨k, hk, hk'⟩ := rounds_ex (show 2 * b.length + 999 + 1 ≤ 2 * b.length + 1000 by omega)
    rw [hk]
    simp only [bastillelaw01_WordLists.j0]
    exact lists_end b _ hb (by omega) k _ _ (by omega) (by simp)

end Go.Proofs.Ytealjhngfhlpaaa.Pure
