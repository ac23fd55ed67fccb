/- The plain law of the statement CallSame, for every input. -/
import Derived.Test.YtiibnfnjfmcggaaDoorPCallSameg
import Derived.Laws.BitsAllLaws
namespace Go.Proofs.YtiibnfnjfmcggaaDoor.Pure
open Go.RowKit Go.Proofs.YtiibnfnjfmcggaaDoor.PCallSame Go.Proofs.YtiibnfnjfmcggaaDoorW.PrintWords Go.Proofs.YtiibnfnjfmcggaaDoorW.PrintLast Go.Proofs.YtiibnfnjfmcggaaDoorW.PrintMore
set_option linter.unusedVariables false
set_option linter.unusedSimpArgs false

/-! ### plain laws: numbers as bytes -/
theorem w64i {x : Int} (h0 : -9223372036854775808 ≤ x) (h1 : x ≤ 9223372036854775807) : wrap64 x = x := by unfold wrap64; omega
theorem u64i {x : Int} (h0 : 0 ≤ x) (h1 : x ≤ 18446744073709551615) : IntKind.u64.wrap x = x := by
  simp only [IntKind.wrap, IntKind.bits, IntKind.signed]
  simp
  omega
theorem rounds_ex {k m : Nat} (h : m + 1 ≤ k) : ∃ j, k = j + 1 ∧ m ≤ j := ⟨k - 1, by omega, by omega⟩
def byteAt (n : Int) (j : Nat) : Int := n / 2 ^ (8 * j) % 256
def lowL (n : Int) (s : Nat) : List Int := (List.range' 0 s).map (byteAt n)
theorem byteAt_succ (n : Int) (j : Nat) : byteAt (n / 256) j = byteAt n (j + 1) := by
  unfold byteAt
  rw [Int.ediv_ediv_of_nonneg (by decide), show (2 : Int) ^ (8 * (j + 1)) = 256 * 2 ^ (8 * j) by rw [show 8 * (j + 1) = 8 * j + 8 by omega, Int.pow_add]; omega]
theorem shr_byte (n : Int) (i : Nat) (hi : i ≤ 8) : shr .i64 n (8 * (i : Int)) = n / 2 ^ (8 * i) := by
  unfold shr
  rw [show (8 * (i : Int)).toNat = 8 * i by omega, Nat.min_eq_left (by simp [IntKind.bits]; omega)]
def lowBad (n s : Int) : Bool := decide (s < 1) || decide (s > 8) || decide (n < 0) || decide (n > 4611686018427387904) || (decide (s < 8) && decide (n / 2 ^ (8 * s.toNat) ≠ 0))
def lowS (n s : Int) : List Int × Int := if lowBad n s then ([], 2) else (lowL n s.toNat, 0)

theorem word_low_l0 (n : Int) (s : Nat) (hs : s ≤ 8) : ∀ (d k i : Nat) (l : List Int), i + d = s → l.length = s → d < k →
    word_Low.l0 k n l (s : Int) (i : Int) = some (l.take i ++ (List.range' i d).map (byteAt n), 0) := by
  intro d
  induction d with
  | zero =>
    intro k i l h1 h2 hk
    obtain ⟨k, rfl, _⟩ := rounds_ex (m := 0) (by omega : 0 + 1 ≤ k)
    simp only [word_Low.l0]
    rw [if_neg (by omega), List.take_of_length_le (by omega)]
    simp
  | succ d ih =>
    intro k i l h1 h2 hk
    obtain ⟨k, rfl, hk'⟩ := rounds_ex (m := d + 1) (by omega : d + 1 + 1 ≤ k)
    have e : IntKind.u64.wrap (wrap64 (8 * (i : Int))) = 8 * (i : Int) := by rw [w64i (by omega) (by omega), u64i (by omega) (by omega)]
    simp only [word_Low.l0]
    rw [if_pos (by omega), e, if_pos (by omega), if_pos (by omega), if_pos (by omega), w64i (by omega) (by omega), shr_byte n i (by omega)]
    have := ih k (i + 1) (l.set (i : Int).toNat (n / 2 ^ (8 * i) % 256)) (by omega) (by simpa using h2) (by omega)
    rw [show (((i + 1 : Nat)) : Int) = (i : Int) + 1 by omega] at this
    rw [this]
    have e2 : (i : Int).toNat = i := by omega
    rw [e2, List.range'_succ, List.map_cons, List.take_succ_eq_append_getElem (by simp; omega), List.getElem_set_self, List.take_set_of_le (Nat.le_refl _), List.append_assoc]
    rfl

theorem word_low_bad (k : Nat) (n s : Int) (hk : 1 ≤ k) : word_Low.j0 k n s true = some ([], 2) := by
  obtain ⟨k, rfl, _⟩ := rounds_ex (m := 0) (by omega : 0 + 1 ≤ k)
  simp [word_Low.j0]
theorem word_low_good (k : Nat) (n s : Int) (h1 : 1 ≤ s) (h2 : s ≤ 8) (hk : 12 ≤ k) : word_Low.j0 k n s false = some (lowL n s.toNat, 0) := by
  obtain ⟨k, rfl, hk⟩ := rounds_ex (m := 11) (by omega : 11 + 1 ≤ k)
  simp only [word_Low.j0]
  rw [if_neg (by simp), if_pos (by omega), if_pos (by omega)]
  simp only [Option.bind_some, List.length_replicate]
  have := word_low_l0 n s.toNat (by omega) s.toNat k 0 (List.replicate s.toNat 0) (by omega) (by simp) (by omega)
  rw [show ((0 : Nat) : Int) = 0 by rfl] at this
  rw [this]
  simp [lowL]
theorem word_low (n s : Int) (k : Nat) (hk : 12 ≤ k) : word_Low.f k n s = some (lowS n s) := by
  unfold word_Low.f lowS lowBad
  by_cases h1 : s < 1
  · rw [if_pos h1, word_low_bad k n s (by omega)]; simp [h1]
  by_cases h2 : s > 8
  · rw [if_neg h1, if_pos h2, word_low_bad k n s (by omega)]; simp [h2]
  by_cases h3 : n < 0
  · rw [if_neg h1, if_neg h2, if_pos h3, word_low_bad k n s (by omega)]; simp [h3]
  by_cases h4 : n > 4611686018427387904
  · rw [if_neg h1, if_neg h2, if_neg h3, if_pos h4, word_low_bad k n s (by omega)]; simp [h4]
  rw [if_neg h1, if_neg h2, if_neg h3, if_neg h4]
  by_cases h5 : s < 8
  · have e : IntKind.u64.wrap (wrap64 (8 * s)) = 8 * s := by rw [w64i (by omega) (by omega), u64i (by omega) (by omega)]
    rw [if_pos h5, e, if_pos (by omega)]
    have e2 := shr_byte n s.toNat (by omega)
    rw [show ((s.toNat : Nat) : Int) = s by omega] at e2
    rw [e2]
    by_cases h6 : n / 2 ^ (8 * s.toNat) = 0
    · rw [h6, show ((0 : Int) != 0) = false by rfl, word_low_good k n s (by omega) (by omega) hk]
      simp [h1, h2, h3, h4]
    · rw [show ((n / 2 ^ (8 * s.toNat)) != 0) = true by simpa using h6, word_low_bad k n s (by omega)]
      simp [h5, h6]
  · rw [if_neg h5, word_low_good k n s (by omega) (by omega) hk]
    simp [h1, h2, h3, h4, h5]
theorem lowL_length (n : Int) (s : Nat) : (lowL n s).length = s := by simp [lowL]
theorem lowS_length (n s : Int) : (lowS n s).1.length ≤ 8 := by
  unfold lowS
  split
  · simp
  · rename_i h
    simp [lowBad] at h
    simp [lowL_length]; omega
theorem word_put (n s : Int) (k : Nat) (hk : 12 ≤ k) : word_Put.f k n s = some ((lowS n s).1.reverse, (lowS n s).2) := by
  unfold word_Put.f
  rw [word_low n s k hk]
  simp only [Option.bind_some, word_turned_byte.f]
  have := lowS_length n s
  rw [if_pos (by omega)]
  rfl

/-! ### loops, by 'from some number of rounds on' -/
theorem w64w (a : Int) : wrap64 (wrap64 a) = wrap64 a := by unfold wrap64; omega
theorem w64l (a b : Int) : wrap64 (wrap64 a + b) = wrap64 (a + b) := by unfold wrap64; omega
theorem w64r (a b : Int) : wrap64 (a + wrap64 b) = wrap64 (a + b) := by unfold wrap64; omega
theorem w64mul (c a : Int) : wrap64 (c * wrap64 a) = wrap64 (c * a) := by
  have e : ∀ x : Int, wrap64 x = x - 18446744073709551616 * ((x + 9223372036854775808) / 18446744073709551616) := by intro x; unfold wrap64; omega
  rw [e a, Int.mul_sub, ← Int.mul_assoc, Int.mul_comm c 18446744073709551616, Int.mul_assoc]
  unfold wrap64
  omega
theorem w64lr (a b : Int) : wrap64 (wrap64 a + wrap64 b) = wrap64 (a + b) := by rw [w64l, w64r]
theorem ix_next (i : Nat) (h : (i : Int) < 9223372036854775807) : wrap64 ((i : Int) + 1) = ((i + 1 : Nat) : Int) := by rw [w64i (by omega) (by omega)]; omega
theorem Ev.some_ {α : Type} {g : Nat → Option α} {r : α} (h : ∀ k, g (k + 1) = some r) : Ev g r := Ev.step h (Ev.now r)
def tot {α : Type} (f : α → Int) : List α → Int
  | [] => 0
  | x :: t => f x + tot f t
theorem getD_drop {α : Type} (l : List α) (z : α) (i : Nat) (h : i < l.length) : l.drop i = l.getD (i : Int).toNat z :: l.drop (i + 1) := by
  rw [List.drop_eq_getElem_cons h, show (i : Int).toNat = i by omega]
  congr 1
  simp [List.getD, List.getElem?_eq_getElem h]
theorem drop_end {α : Type} (l : List α) (i : Nat) (h : i = l.length) : l.drop i = [] := List.drop_of_length_le (by omega)

/-! ### plain laws: are two lists one? -/
theorem rd_get (l : List Int) (i : Nat) (h : i < l.length) : rd l (i : Int) = l[i] := by
  unfold rd
  simp [List.getD, List.getElem?_eq_getElem h]
theorem same_l0 (a b : List Int) (hl : a.length = b.length) (hm : a.length ≤ 4611686018427387904) : ∀ (d k i : Nat), i + d = a.length → d < k →
    bastilleref01_Same.l0 k a b (i : Int) = some (decide (a.drop i = b.drop i)) := by
  intro d
  induction d with
  | zero =>
    intro k i h1 hk
    obtain ⟨k, rfl, _⟩ := rounds_ex (m := 0) (by omega : 0 + 1 ≤ k)
    simp only [bastilleref01_Same.l0]
    rw [if_neg (by omega), List.drop_of_length_le (by omega), List.drop_of_length_le (by omega)]
    simp
  | succ d ih =>
    intro k i h1 hk
    obtain ⟨k, rfl, hk'⟩ := rounds_ex (m := d + 1) (by omega : d + 1 + 1 ≤ k)
    simp only [bastilleref01_Same.l0]
    rw [if_pos (by omega), if_pos (by omega), if_pos (by omega), rd_get a i (by omega), rd_get b i (by omega), w64i (by omega) (by omega)]
    rw [List.drop_eq_getElem_cons (show i < a.length by omega), List.drop_eq_getElem_cons (show i < b.length by omega)]
    have := ih k (i + 1) (by omega) (by omega)
    rw [show (((i + 1 : Nat)) : Int) = (i : Int) + 1 by omega] at this
    by_cases h : a[i] = b[i]
    · rw [if_pos h, this]
      congr 1
      exact decide_eq_decide.mpr (by rw [h]; exact ⟨fun e => by rw [e], fun e => (List.cons.inj e).2⟩)
    · rw [if_neg h]
      exact congrArg some (decide_eq_false (fun e => h (List.cons.inj e).1)).symm
theorem same_ev (a b : List Int) (hm : a.length ≤ 4611686018427387904) (k : Nat) (hk : a.length + 1 ≤ k) : bastilleref01_Same.f k a b = some (decide (a = b)) := by
  unfold bastilleref01_Same.f
  by_cases h : a.length = b.length
  · rw [if_pos (by omega)]
    have := same_l0 a b h hm a.length k 0 (by omega) (by omega)
    simpa using this
  · rw [if_neg (by omega)]
    simp
    intro e
    exact h (by rw [e])
theorem same_refl (a : List Int) (hm : a.length ≤ 4611686018427387904) (k : Nat) (hk : a.length + 1 ≤ k) : bastilleref01_Same.f k a a = some true := by
  rw [same_ev a a hm k hk]; simp

/-! ### plain laws: bytes as numbers -/
def ByteOk (b : List Int) : Prop := ∀ x ∈ b, 0 ≤ x ∧ x ≤ 255
theorem byteOk_of {b : List Int} (h : ∀ x ∈ b, (Lit.int .u8 x).wf = true) : ByteOk b := by
  intro x hx
  have := h x hx
  simp [Lit.wf, IntKind.min, IntKind.max, IntKind.signed, IntKind.bits] at this
  omega
def numA (acc : Int) (b : List Int) : Int := b.foldl (fun x c => 256 * x + c) acc
def numL (b : List Int) : Int := numA 0 b
theorem numA_ge (b : List Int) : ∀ acc, 0 ≤ acc → ByteOk b → acc ≤ numA acc b := by
  induction b with
  | nil => intro acc _ _; exact Int.le_refl _
  | cons c t ih =>
    intro acc h0 hb
    have hc := hb c (by simp)
    have := ih (256 * acc + c) (by omega) (fun x hx => hb x (by simp [hx]))
    show acc ≤ numA (256 * acc + c) t
    omega
def getS (b : List Int) : Int × Int := if b.length = 0 then (0, 10) else if b.length > 8 then (0, 2) else if numL b > 4611686018427387904 then (0, 11) else (numL b, 0)
theorem pow7 (i : Nat) (h : i ≤ 7) : (256 : Int) ^ i ≤ 72057594037927936 := by
  obtain rfl | rfl | rfl | rfl | rfl | rfl | rfl | rfl : i = 0 ∨ i = 1 ∨ i = 2 ∨ i = 3 ∨ i = 4 ∨ i = 5 ∨ i = 6 ∨ i = 7 := by omega
  all_goals decide
theorem or_byte (a c : Int) (h0 : 0 ≤ a) (h1 : a ≤ 72057594037927935) (h2 : 0 ≤ c) (h3 : c ≤ 255) : Go.bits .or .u64 (IntKind.u64.wrap (a * 256)) (IntKind.u64.wrap c) = 256 * a + c := by
  obtain ⟨a, rfl⟩ := Int.eq_ofNat_of_zero_le h0
  obtain ⟨c, rfl⟩ := Int.eq_ofNat_of_zero_le h2
  rw [u64i (by omega) (by omega), u64i (by omega) (by omega)]
  have e : ((a : Int) * 256) = ((a * 256 : Nat) : Int) := by omega
  rw [e]
  refine (u64_or_nat (a * 256) c (by omega) (by omega)).trans ?_
  have := Nat.two_pow_add_eq_or_of_lt (i := 8) (b := c) (by omega) a
  rw [show a * 256 = 2 ^ 8 * a by omega, ← this]
  omega
theorem byteOk_reverse {b : List Int} (h : ByteOk b) : ByteOk b.reverse := fun x hx => h x (List.mem_reverse.1 hx)

/-! ### strings of bytes -/
theorem strs_inj (a b : List Int) (ha : ByteOk a) (hb : ByteOk b) (h : (strOfNums a).toList = (strOfNums b).toList) : a = b := by
  have h' : a.map (fun n => UInt8.ofNat n.toNat) = b.map (fun n => UInt8.ofNat n.toNat) := by
    rw [ByteArray.toList_eq, ByteArray.toList_eq, strOfNums_data, strOfNums_data] at h
    exact h
  clear h
  induction a generalizing b with
  | nil => cases b with
    | nil => rfl
    | cons y t => simp at h'
  | cons x s ih => cases b with
    | nil => simp at h'
    | cons y t =>
      simp only [List.map_cons, List.cons.injEq] at h'
      have hx := ha x (by simp)
      have hy := hb y (by simp)
      have e : x = y := by
        have := congrArg UInt8.toNat h'.1
        simp only [UInt8.toNat_ofNat'] at this
        omega
      rw [e, ih t (fun z hz => ha z (by simp [hz])) (fun z hz => hb z (by simp [hz])) h'.2]

theorem Ev.fin {α : Type} {g : Nat → Option α} {r : α} (K : Nat) (h : ∀ k, K ≤ k → g k = some r) : Ev g r := ⟨K, h⟩
/-! ### loops that compare, loops that look for something -/
theorem loop_ev {α β : Type} [DecidableEq β] (key : α → β) (z : α) (a b : List α) (hl : a.length = b.length) (hm : a.length ≤ 9223372036854775807) (F : Nat → Int → Option Bool) (G : Nat → Option Bool) (r : Bool) (hG : Ev G r)
    (hstop : ∀ k, F (k + 1) (a.length : Int) = G k) (hne : ∀ k (i : Nat), i < a.length → key (rdOf z a (i : Int)) ≠ key (rdOf z b (i : Int)) → F (k + 1) (i : Int) = some false)
    (heq : ∀ k (i : Nat), i < a.length → key (rdOf z a (i : Int)) = key (rdOf z b (i : Int)) → F (k + 1) (i : Int) = F k (wrap64 ((i : Int) + 1))) :
    ∀ (d i : Nat), i + d = a.length → Ev (fun k => F k (i : Int)) (decide ((a.drop i).map key = (b.drop i).map key) && r) := by
  intro d
  induction d with
  | zero =>
    intro i h
    have e : i = a.length := by omega
    subst e
    rw [drop_end a _ rfl, drop_end b _ hl]
    simp only [List.map_nil, decide_true, Bool.true_and]
    exact Ev.step hstop hG
  | succ d ih =>
    intro i h
    rw [getD_drop a z i (by omega), getD_drop b z i (by omega), List.map_cons, List.map_cons]
    by_cases he : key (rdOf z a (i : Int)) = key (rdOf z b (i : Int))
    · have e : (decide (key (a.getD (i : Int).toNat z) :: (a.drop (i + 1)).map key = key (b.getD (i : Int).toNat z) :: (b.drop (i + 1)).map key)) = decide ((a.drop (i + 1)).map key = (b.drop (i + 1)).map key) := by
        refine decide_eq_decide.mpr ?_
        rw [show key (a.getD (i : Int).toNat z) = key (b.getD (i : Int).toNat z) from he]
        exact ⟨fun q => (List.cons.inj q).2, fun q => by rw [q]⟩
      rw [e]
      refine Ev.step (f := fun k => F k (((i + 1 : Nat)) : Int)) (fun k => ?_) (ih (i + 1) (by omega))
      rw [heq k i (by omega) he, ix_next i (by omega)]
    · have e : (decide (key (a.getD (i : Int).toNat z) :: (a.drop (i + 1)).map key = key (b.getD (i : Int).toNat z) :: (b.drop (i + 1)).map key)) = false := decide_eq_false (fun q => he (List.cons.inj q).1)
      rw [e]
      exact Ev.some_ (fun k => hne k i (by omega) he)
theorem loop_any (n : Nat) (hm : n ≤ 9223372036854775807) (F : Nat → Int → Option Bool) (G : Nat → Option Bool) (r : Bool) (hG : Ev G r) (hstop : ∀ k, F (k + 1) (n : Int) = G k)
    (hstep : ∀ i : Nat, i < n → (∀ k, F (k + 1) (i : Int) = some false) ∨ (∀ k, F (k + 1) (i : Int) = F k (wrap64 ((i : Int) + 1)))) :
    ∀ (d i : Nat), i + d = n → ∃ b, Ev (fun k => F k (i : Int)) b ∧ (b = true → r = true) := by
  intro d
  induction d with
  | zero =>
    intro i h
    have e : i = n := by omega
    subst e
    exact ⟨r, Ev.step hstop hG, id⟩
  | succ d ih =>
    intro i h
    rcases hstep i (by omega) with hs | hs
    · exact ⟨false, Ev.some_ hs, fun q => by cases q⟩
    · obtain ⟨b, hb, hq⟩ := ih (i + 1) (by omega)
      exact ⟨b, Ev.step (f := fun k => F k (((i + 1 : Nat)) : Int)) (fun k => by rw [hs k, ix_next i (by omega)]) hb, hq⟩

/-! ### the law -/
theorem awake30_ev : Ev (fun k => bastillelaw30_awake.f k) true := Ev.of (fun k => bastillelaw30_awake.mono k) (k := 40) (by decide +kernel)
section
variable (a0 : Int) (a1 a2 a3 a4 : ByteArray) (a5 a6 : Int) (a7 : List Int) (b0 : Int) (b1 b2 b3 b4 : ByteArray) (b5 b6 : Int) (b7 : List Int)
def sameC : Prop := a0 = b0 ∧ a1.toList = b1.toList ∧ a2.toList = b2.toList ∧ a3.toList = b3.toList ∧ a4.toList = b4.toList ∧ a5 = b5 ∧ a6 = b6 ∧ a7 = b7
instance : Decidable (sameC a0 a1 a2 a3 a4 a5 a6 a7 b0 b1 b2 b3 b4 b5 b6 b7) := by unfold sameC; infer_instance
theorem callSame_ev (ha : ByteOk a7) (hb : ByteOk b7) : Ev (fun _ => call_Same.f a0 a1 a2 a3 a4 a5 a6 a7 b0 b1 b2 b3 b4 b5 b6 b7) (decide (sameC a0 a1 a2 a3 a4 a5 a6 a7 b0 b1 b2 b3 b4 b5 b6 b7)) := by
  have hq : ((strOfNums a7).toList == (strOfNums b7).toList) = decide (a7 = b7) := by
    by_cases c : a7 = b7
    · rw [decide_eq_true c, c]; exact beq_self_eq_true _
    · rw [decide_eq_false c]; exact beq_eq_false_iff_ne.2 (fun q => c (strs_inj a7 b7 ha hb q))
  have h : call_Same.f a0 a1 a2 a3 a4 a5 a6 a7 b0 b1 b2 b3 b4 b5 b6 b7 = some (decide (sameC a0 a1 a2 a3 a4 a5 a6 a7 b0 b1 b2 b3 b4 b5 b6 b7)) := by
    rw [call_Same.f, bytes_Equal.f, hq, Option.bind_some]
    unfold sameC
    by_cases c7 : a7 = b7 <;> by_cases c0 : a0 = b0 <;> by_cases c5 : a5 = b5 <;> by_cases c6 : a6 = b6 <;> by_cases c1 : a1.toList = b1.toList <;> by_cases c2 : a2.toList = b2.toList <;> by_cases c3 : a3.toList = b3.toList <;> simp [c7, c0, c5, c6, c1, c2, c3]
    by_cases c4 : a4.toList = b4.toList <;> simp [c4]
  rw [h]
  exact Ev.now _
theorem rsame30_ev (h7 : a7.length ≤ 600) : Ev (fun k => bastilleref30_Same.f k a0 a1 a2 a3 a4 a5 a6 a7 b0 b1 b2 b3 b4 b5 b6 b7) (decide (sameC a0 a1 a2 a3 a4 a5 a6 a7 b0 b1 b2 b3 b4 b5 b6 b7)) := by
  refine Ev.fin (a7.length + 1) (fun k hk => ?_)
  rw [bastilleref30_Same.f, same_ev a7 b7 (by omega) k hk, Option.bind_some]
  unfold sameC
  by_cases c7 : a7 = b7 <;> by_cases c0 : a0 = b0 <;> by_cases c5 : a5 = b5 <;> by_cases c6 : a6 = b6 <;> by_cases c1 : a1.toList = b1.toList <;> by_cases c2 : a2.toList = b2.toList <;> by_cases c3 : a3.toList = b3.toList <;> by_cases c4 : a4.toList = b4.toList <;> simp [c7, c0, c5, c6, c1, c2, c3, c4]
end
theorem few30 (a0 : Int) (a1 a2 a3 a4 : ByteArray) (a5 a6 : Int) (a7 : List Int) : ∃ b, bastillelaw30_Few.f a0 a1 a2 a3 a4 a5 a6 a7 = some b ∧ (b = true → a7.length ≤ 600) := by
  unfold bastillelaw30_Few.f
  split
  · split
    · split
      · split
        · exact ⟨_, rfl, fun h => by have := of_decide_eq_true h; omega⟩
        · exact ⟨_, rfl, fun h => by cases h⟩
      · exact ⟨_, rfl, fun h => by cases h⟩
    · exact ⟨_, rfl, fun h => by cases h⟩
  · exact ⟨_, rfl, fun h => by cases h⟩
def wrB (x : Int) : Bool := if x ≥ 2 then (if x ≤ 11 then (if x = 9 then false else (x != 10)) else false) else false
theorem writes_eq (x : Int) : call_Writes.f x = some (wrB x) := by
  unfold call_Writes.f wrB
  by_cases c1 : x ≥ 2
  · by_cases c2 : x ≤ 8
    · rw [if_pos c1, if_pos c2, if_pos c1, if_pos (by omega), if_neg (by omega)]
      have : (x != 10) = true := bne_iff_ne.2 (by omega)
      rw [this]
    · rw [if_pos c1, if_neg c2, if_pos c1]
      by_cases c3 : x ≤ 11
      · rw [if_pos c3]
        by_cases c4 : x = 9
        · rw [if_pos c4, c4]; rfl
        · rw [if_neg c4]
          by_cases c5 : x = 10
          · rw [c5]; rfl
          · have e : x = 11 := by omega
            rw [e]; rfl
      · rw [if_neg c3]
        have : (x == 11) = false := beq_eq_false_iff_ne.2 (by omega)
        rw [this]
  · rw [if_neg c1, if_neg c1]
    have : (x == 11) = false := beq_eq_false_iff_ne.2 (by omega)
    rw [this]
theorem CallSame : bastillelaw30_CallSame.Pure := by
  intro a0 a1 a2 a3 a4 a5 a6 a7 b0 b1 b2 b3 b4 b5 b6 b7 x _ _ _ _ _ _ _ h7 _ _ _ _ _ _ _ g7 _
  refine Ev.rounds (r := true) ?_
  unfold bastillelaw30_CallSame.f
  refine Ev.bind awake30_ev ?_
  simp only [if_true]
  obtain ⟨u, eu, hu⟩ := few30 a0 a1 a2 a3 a4 a5 a6 a7
  rw [eu]
  simp only [Option.bind_some]
  have yes : Ev (fun k => bastillelaw30_CallSame.j0 k x true a0 a1 a2 a3 a4 a5 a6 a7 b0 b1 b2 b3 b4 b5 b6 b7) true := Ev.some_ (fun k => by simp only [bastillelaw30_CallSame.j0, if_true])
  cases u with
  | false =>
    simp only [Bool.false_eq_true, if_false]
    exact yes
  | true =>
    simp only [if_true]
    obtain ⟨v, ev, hv⟩ := few30 b0 b1 b2 b3 b4 b5 b6 b7
    rw [ev]
    simp only [Option.bind_some]
    cases v with
    | false => exact yes
    | true =>
      refine Ev.step (f := fun k => bastillelaw30_CallSame.j1 k x (wrB x) a0 a1 a2 a3 a4 a5 a6 a7 b0 b1 b2 b3 b4 b5 b6 b7) (fun k => ?_) ?_
      · simp only [bastillelaw30_CallSame.j0, Bool.not_true, Bool.false_eq_true, if_false]
        unfold wrB
        by_cases c1 : x ≥ 2
        · by_cases c2 : x ≤ 11
          · by_cases c3 : x = 9
            · simp only [if_pos c1, if_pos c2, if_pos c3]
            · simp only [if_pos c1, if_pos c2, if_neg c3]
          · simp only [if_pos c1, if_neg c2]
        · simp only [if_neg c1]
      · have ha := byteOk_of h7.2
        have hb := byteOk_of g7.2
        refine Ev.step (f := fun k => (call_Same.f a0 a1 a2 a3 a4 a5 a6 a7 b0 b1 b2 b3 b4 b5 b6 b7).bind fun t267 => ((bastilleref30_Same.f k a0 a1 a2 a3 a4 a5 a6 a7 b0 b1 b2 b3 b4 b5 b6 b7).bind fun t268 => (if (t267 == t268) = true then ((call_Same.f a0 a1 a2 a3 a4 a5 a6 a7 a0 a1 a2 a3 a4 a5 a6 a7).bind fun t269 => (if t269 = true then ((call_Writes.f x).bind fun t270 => (some (t270 == wrB x))) else (none))) else (none)))) (fun k => by simp only [bastillelaw30_CallSame.j1]) ?_
        refine Ev.bind (callSame_ev a0 a1 a2 a3 a4 a5 a6 a7 b0 b1 b2 b3 b4 b5 b6 b7 ha hb) ?_
        refine Ev.bind (rsame30_ev a0 a1 a2 a3 a4 a5 a6 a7 b0 b1 b2 b3 b4 b5 b6 b7 (hu rfl)) ?_
        simp only [beq_self_eq_true, if_true]
        refine Ev.bind (callSame_ev a0 a1 a2 a3 a4 a5 a6 a7 a0 a1 a2 a3 a4 a5 a6 a7 ha ha) ?_
        rw [decide_eq_true (show sameC a0 a1 a2 a3 a4 a5 a6 a7 a0 a1 a2 a3 a4 a5 a6 a7 from ⟨rfl, rfl, rfl, rfl, rfl, rfl, rfl, rfl⟩)]
        simp only [if_true, writes_eq, Option.bind_some, beq_self_eq_true]
        exact Ev.now _

end Go.Proofs.YtiibnfnjfmcggaaDoor.Pure
