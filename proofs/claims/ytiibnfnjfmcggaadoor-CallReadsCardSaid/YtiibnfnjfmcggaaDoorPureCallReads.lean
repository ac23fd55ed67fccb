/- The plain law of the statement CallReads, for every input. -/
import Derived.Test.YtiibnfnjfmcggaaDoorPCallReadsg
import Derived.Laws.BitsAllLaws
namespace Go.Proofs.YtiibnfnjfmcggaaDoor.Pure
open Go.RowKit Go.Proofs.YtiibnfnjfmcggaaDoor.PCallReads Go.Proofs.YtiibnfnjfmcggaaDoorW.PrintWords Go.Proofs.YtiibnfnjfmcggaaDoorW.PrintLast Go.Proofs.YtiibnfnjfmcggaaDoorW.PrintMore
set_option linter.unusedVariables false
set_option linter.unusedSimpArgs false

theorem w64i {x : Int} (h0 : -9223372036854775808 ≤ x) (h1 : x ≤ 9223372036854775807) : wrap64 x = x := by unfold wrap64; omega
theorem u64i {x : Int} (h0 : 0 ≤ x) (h1 : x ≤ 18446744073709551615) : IntKind.u64.wrap x = x := by
 simp only [IntKind.wrap, IntKind.bits, IntKind.signed]
 simp
 omega
theorem rounds_ex {k m : Nat} (h : m + 1 ≤ k) : ∃ j, k = j + 1 ∧ m ≤ j := ⟨k - 1, by omega, by omega⟩
def byteAt (n : Int) (j : Nat) : Int := n / 2 ^ (8 * j) % 256
def lowL (n : Int) (s : Nat) : List Int := (List.range' 0 s).map (byteAt n)
theorem byteAt_succ (n : Int) (j : Nat) : byteAt (n / 256) j = byteAt n (j + 1) := by
 unfold byteAt
 rw [Int.ediv_ediv_of_nonneg (by decide), show (2 : Int) ^ (8 * (j + 1)) = 256 * 2 ^ (8 * j) by rw [show 8 * (j + 1) = 8 * j + 8 by omega, Int.pow_add]; omega]
theorem shr_byte (n : Int) (i : Nat) (hi : i ≤ 8) : shr .i64 n (8 * (i : Int)) = n / 2 ^ (8 * i) := by
 unfold shr
 rw [show (8 * (i : Int)).toNat = 8 * i by omega, Nat.min_eq_left (by simp [IntKind.bits]; omega)]
def lowBad (n s : Int) : Bool := decide (s < 1) || decide (s > 8) || decide (n < 0) || decide (n > 4611686018427387904) || (decide (s < 8) && decide (n / 2 ^ (8 * s.toNat) ≠ 0))
def lowS (n s : Int) : List Int × Int := if lowBad n s then ([], 2) else (lowL n s.toNat, 0)
theorem word_low_l0 (n : Int) (s : Nat) (hs : s ≤ 8) : ∀ (d k i : Nat) (l : List Int), i + d = s → l.length = s → d < k →
  word_Low.l0 k n l (s : Int) (i : Int) = some (l.take i ++ (List.range' i d).map (byteAt n), 0) := by
 intro d
 induction d with
 | zero =>
  intro k i l h1 h2 hk
  obtain ⟨k, rfl, _⟩ := rounds_ex (m := 0) (by omega : 0 + 1 ≤ k)
  simp only [word_Low.l0]
  rw [if_neg (by omega), List.take_of_length_le (by omega)]
  simp
 | succ d ih =>
  intro k i l h1 h2 hk
  obtain ⟨k, rfl, hk'⟩ := rounds_ex (m := d + 1) (by omega : d + 1 + 1 ≤ k)
  have e : IntKind.u64.wrap (wrap64 (8 * (i : Int))) = 8 * (i : Int) := by rw [w64i (by omega) (by omega), u64i (by omega) (by omega)]
  simp only [word_Low.l0]
  rw [if_pos (by omega), e, if_pos (by omega), if_pos (by omega), if_pos (by omega), w64i (by omega) (by omega), shr_byte n i (by omega)]
  have := ih k (i + 1) (l.set (i : Int).toNat (n / 2 ^ (8 * i) % 256)) (by omega) (by simpa using h2) (by omega)
  rw [show (((i + 1 : Nat)) : Int) = (i : Int) + 1 by omega] at this
  rw [this]
  have e2 : (i : Int).toNat = i := by omega
  rw [e2, List.range'_succ, List.map_cons, List.take_succ_eq_append_getElem (by simp; omega), List.getElem_set_self, List.take_set_of_le (Nat.le_refl _), List.append_assoc]
  rfl
theorem word_low_bad (k : Nat) (n s : Int) (hk : 1 ≤ k) : word_Low.j0 k n s true = some ([], 2) := by
 obtain ⟨k, rfl, _⟩ := rounds_ex (m := 0) (by omega : 0 + 1 ≤ k)
 simp [word_Low.j0]
theorem word_low_good (k : Nat) (n s : Int) (h1 : 1 ≤ s) (h2 : s ≤ 8) (hk : 12 ≤ k) : word_Low.j0 k n s false = some (lowL n s.toNat, 0) := by
 obtain ⟨k, rfl, hk⟩ := rounds_ex (m := 11) (by omega : 11 + 1 ≤ k)
 simp only [word_Low.j0]
 rw [if_neg (by simp), if_pos (by omega), if_pos (by omega)]
 simp only [Option.bind_some, List.length_replicate]
 have := word_low_l0 n s.toNat (by omega) s.toNat k 0 (List.replicate s.toNat 0) (by omega) (by simp) (by omega)
 rw [show ((0 : Nat) : Int) = 0 by rfl] at this
 rw [this]
 simp [lowL]
theorem word_low (n s : Int) (k : Nat) (hk : 12 ≤ k) : word_Low.f k n s = some (lowS n s) := by
 unfold word_Low.f lowS lowBad
 by_cases h1 : s < 1
 ·rw [if_pos h1, word_low_bad k n s (by omega)]; simp [h1]
 by_cases h2 : s > 8
 ·rw [if_neg h1, if_pos h2, word_low_bad k n s (by omega)]; simp [h2]
 by_cases h3 : n < 0
 ·rw [if_neg h1, if_neg h2, if_pos h3, word_low_bad k n s (by omega)]; simp [h3]
 by_cases h4 : n > 4611686018427387904
 ·rw [if_neg h1, if_neg h2, if_neg h3, if_pos h4, word_low_bad k n s (by omega)]; simp [h4]
 rw [if_neg h1, if_neg h2, if_neg h3, if_neg h4]
 by_cases h5 : s < 8
 ·have e : IntKind.u64.wrap (wrap64 (8 * s)) = 8 * s := by rw [w64i (by omega) (by omega), u64i (by omega) (by omega)]
  rw [if_pos h5, e, if_pos (by omega)]
  have e2 := shr_byte n s.toNat (by omega)
  rw [show ((s.toNat : Nat) : Int) = s by omega] at e2
  rw [e2]
  by_cases h6 : n / 2 ^ (8 * s.toNat) = 0
  ·rw [h6, show ((0 : Int) != 0) = false by rfl, word_low_good k n s (by omega) (by omega) hk]
   simp [h1, h2, h3, h4]
  ·rw [show ((n / 2 ^ (8 * s.toNat)) != 0) = true by simpa using h6, word_low_bad k n s (by omega)]
   simp [h5, h6]
 ·rw [if_neg h5, word_low_good k n s (by omega) (by omega) hk]
  simp [h1, h2, h3, h4, h5]
theorem lowL_length (n : Int) (s : Nat) : (lowL n s).length = s := by simp [lowL]
theorem lowS_length (n s : Int) : (lowS n s).1.length ≤ 8 := by
 unfold lowS
 split
 ·simp
 ·rename_i h
  simp [lowBad] at h
  simp [lowL_length]; omega
theorem word_put (n s : Int) (k : Nat) (hk : 12 ≤ k) : word_Put.f k n s = some ((lowS n s).1.reverse, (lowS n s).2) := by
 unfold word_Put.f
 rw [word_low n s k hk]
 simp only [Option.bind_some, word_turned_byte.f]
 have := lowS_length n s
 rw [if_pos (by omega)]
 rfl
theorem lowL_succ (n : Int) (s : Nat) : lowL n (s + 1) = n % 256 :: lowL (n / 256) s := by
 unfold lowL
 rw [List.range'_succ, List.map_cons]
 congr 1
 ·simp [byteAt]
 ·apply List.ext_getElem (by simp)
  intro j _ _
  simp only [List.getElem_map, List.getElem_range', Nat.one_mul, Nat.zero_add]
  rw [byteAt_succ, Nat.add_comm]
theorem ix_next (i : Nat) (h : (i : Int) < 9223372036854775807) : wrap64 ((i : Int) + 1) = ((i + 1 : Nat) : Int) := by rw [w64i (by omega) (by omega)]; omega
theorem Ev.some_ {α : Type} {g : Nat → Option α} {r : α} (h : ∀ k, g (k + 1) = some r) : Ev g r := Ev.step h (Ev.now r)
theorem getD_drop {α : Type} (l : List α) (z : α) (i : Nat) (h : i < l.length) : l.drop i = l.getD (i : Int).toNat z :: l.drop (i + 1) := by
 rw [List.drop_eq_getElem_cons h, show (i : Int).toNat = i by omega]
 congr 1
 simp [List.getD, List.getElem?_eq_getElem h]
theorem drop_end {α : Type} (l : List α) (i : Nat) (h : i = l.length) : l.drop i = [] := List.drop_of_length_le (by omega)
theorem S_ind {P : S43 → Prop} (h : ∀ v : S43, (∀ x ∈ v.f3, P x) → P v) : ∀ v, P v := by
 have key : ∀ (n : Nat) (v : S43), SizeOf.sizeOf v ≤ n → P v := by
  intro n
  induction n with
  | zero => intro v hv; cases v; simp at hv
  | succ n ih =>
   intro v hv
   refine h v (fun x hx => ih x ?_)
   have h1 := List.sizeOf_lt_of_mem hx
   have h2 : SizeOf.sizeOf v.f3 < SizeOf.sizeOf v := by cases v; simp <;> omega
   omega
 intro v
 exact key _ v (Nat.le_refl _)
def digs : Nat → Int → Nat
 | 0, _ => 0
 | m + 1, n => if n > 0 then digs m (n / 256) + 1 else 0
def numB (n : Int) : List Int := 1 :: (digs 8 n : Int) :: (lowL n (digs 8 n)).reverse
mutual
def bytesS : S43 → List Int
 | ⟨f0, f1, f2, f3⟩ => if f0 = 1 then numB f1 else if f0 = 2 then [2] ++ (lowL f2.length 3).reverse ++ f2 else [3] ++ (lowL f3.length 2).reverse ++ bytesL f3
def bytesL : List S43 → List Int
 | [] => []
 | x :: t => bytesS x ++ bytesL t
end
mutual
def pureS : S43 → Bool
 | ⟨f0, f1, f2, f3⟩ => if f0 = 1 then decide (f1 ≥ 0) && decide (f1 ≤ 4611686018427387904) && f2.isEmpty && f3.isEmpty else if f0 = 2 then decide (f1 = 0) && f3.isEmpty else if f0 = 3 then decide (f1 = 0) && f2.isEmpty && decide (f3.length ≤ 4096) && pureL f3 else false
def pureL : List S43 → Bool
 | [] => true
 | x :: t => pureS x && pureL t
end
mutual
def deepS : S43 → Nat
 | ⟨f0, _, _, f3⟩ => if f0 = 3 then 1 + deepL f3 else 0
def deepL : List S43 → Nat
 | [] => 0
 | x :: t => max (deepS x) (deepL t)
end
mutual
def cntS : S43 → Nat
 | ⟨_, _, _, f3⟩ => 1 + cntL f3
def cntL : List S43 → Nat
 | [] => 0
 | x :: t => cntS x + cntL t
end
mutual
def okS : S43 → Bool
 | ⟨_, _, f2, f3⟩ => decide (f2.length ≤ 100000) && okL f3
def okL : List S43 → Bool
 | [] => true
 | x :: t => okS x && okL t
end
theorem okL_all (l : List S43) : okL l = true ↔ ∀ x ∈ l, okS x = true := by
 induction l with
 | nil => simp [okL]
 | cons x t ih => simp [okL, ih]
theorem pureL_all (l : List S43) : pureL l = true ↔ ∀ x ∈ l, pureS x = true := by
 induction l with
 | nil => simp [pureL]
 | cons x t ih => simp [pureL, ih]
theorem cntL_mem (l : List S43) : ∀ x ∈ l, cntS x ≤ cntL l := by
 induction l with
 | nil => simp
 | cons y t ih =>
  intro x hx
  rcases List.mem_cons.1 hx with rfl | hx
  ·simp [cntL]
  ·have := ih x hx
   simp [cntL]
   omega
theorem cntS_pos (v : S43) : 1 ≤ cntS v := by cases v; simp [cntS]
theorem cntL_len (l : List S43) : l.length ≤ cntL l := by
 induction l with
 | nil => simp
 | cons x t ih =>
  have := cntS_pos x
  simp [cntL]
  omega
theorem cnt_f3 (v : S43) : cntS v = 1 + cntL v.f3 := by cases v; simp [cntS]
theorem ok_f3 (v : S43) (h : okS v = true) : v.f2.length ≤ 100000 ∧ ∀ x ∈ v.f3, okS x = true := by
 cases v
 simp only [okS, Bool.and_eq_true, decide_eq_true_eq] at h
 exact ⟨h.1, (okL_all _).1 h.2⟩
structure Small (v : S43) : Prop where
 cnt : cntS v ≤ 100000
 ok : okS v = true
theorem Small.sub {v : S43} (h : Small v) : ∀ x ∈ v.f3, Small x := fun x hx => ⟨by have := cntL_mem _ x hx; have := cnt_f3 v; have := h.cnt; omega, (ok_f3 v h.ok).2 x hx⟩
theorem Small.len3 {v : S43} (h : Small v) : v.f3.length ≤ 100000 := by have := cntL_len v.f3; have := cnt_f3 v; have := h.cnt; omega
theorem Small.len2 {v : S43} (h : Small v) : v.f2.length ≤ 100000 := (ok_f3 v h.ok).1
theorem digs_le : ∀ m n, digs m n ≤ m
 | 0, _ => Nat.le_refl _
 | m + 1, n => by
  simp only [digs]
  split
  ·have := digs_le m (n / 256); omega
  ·omega
theorem numB_length (n : Int) : (numB n).length ≤ 10 := by
 have := digs_le 8 n
 simp [numB, lowL_length]
 omega
theorem bytes_len (v : S43) : okS v = true → (bytesS v).length ≤ 200000 * cntS v := by
 refine S_ind (P := fun v => okS v = true → (bytesS v).length ≤ 200000 * cntS v) (fun v ih h => ?_) v
 have hl : ∀ l : List S43, (∀ x ∈ l, (bytesS x).length ≤ 200000 * cntS x) → (bytesL l).length ≤ 200000 * cntL l := by
  intro l
  induction l with
  | nil => intro _; simp [bytesL]
  | cons x t iht =>
   intro hx
   have h1 := hx x (by simp)
   have h2 := iht (fun y hy => hx y (by simp [hy]))
   simp only [bytesL, cntL, List.length_append]
   omega
 have h1 := ok_f3 v h
 have h2 := hl v.f3 (fun x hx => ih x hx (h1.2 x hx))
 obtain ⟨f0, f1, f2, f3⟩ := v
 simp only [bytesS, cntS]
 split
 ·have := numB_length f1; omega
 ·split
  ·simp [lowL_length]; have := h1.1; simp at this; omega
  ·simp [lowL_length]; simp at h2; omega
def plainS (n : Int) : List Int := ((lowS n 8).1.reverse).dropWhile (fun x => x == 0)
theorem strip (m : Nat) : ∀ n : Int, 0 ≤ n → n / 2 ^ (8 * m) = 0 → ((lowL n m).reverse).dropWhile (fun x => x == 0) = (lowL n (digs m n)).reverse ∧ (n > 0 → digs m n ≠ 0) ∧ n / 2 ^ (8 * digs m n) = 0 := by
 induction m with
 | zero => intro n h0 h1; simp at h1; subst h1; exact ⟨rfl, by omega, by simp [digs]⟩
 | succ m ih =>
  intro n h0 h1
  have hq : n / 256 / 2 ^ (8 * m) = 0 := by rw [Int.ediv_ediv_of_nonneg (by decide), ← h1, show (2 : Int) ^ (8 * (m + 1)) = 256 * 2 ^ (8 * m) by rw [show 8 * (m + 1) = 8 * m + 8 by omega, Int.pow_add]; omega]
  obtain ⟨i1, i2, i3⟩ := ih (n / 256) (by omega) hq
  rw [lowL_succ, List.reverse_cons, List.dropWhile_append, i1]
  by_cases hn : n > 0
  ·have e : digs (m + 1) n = digs m (n / 256) + 1 := by simp [digs, hn]
   rw [e]
   refine ⟨?_, by omega, ?_⟩
   ·rw [lowL_succ, List.reverse_cons]
    by_cases hd : digs m (n / 256) = 0
    ·have : ¬ n / 256 > 0 := fun h => i2 h hd
     rw [hd]
     have hne : ¬ n % 256 = 0 := by omega
     simp [lowL, hne]
    ·have : ((lowL (n / 256) (digs m (n / 256))).reverse).isEmpty = false := by
      rw [List.isEmpty_eq_false_iff]
      intro h
      have := congrArg List.length h
      simp [lowL_length] at this
      exact hd this
     rw [this]
     rfl
   ·rw [show (2 : Int) ^ (8 * (digs m (n / 256) + 1)) = 256 * 2 ^ (8 * digs m (n / 256)) by rw [show 8 * (digs m (n / 256) + 1) = 8 * digs m (n / 256) + 8 by omega, Int.pow_add]; omega, ← Int.ediv_ediv_of_nonneg (by decide)]
    exact i3
  ·have h00 : n = 0 := by omega
   subst h00
   have e : digs m (0 / 256) = 0 := by cases m <;> simp [digs]
   rw [e]
   refine ⟨by simp [lowL, digs], by omega, by simp⟩
theorem plain_num (n : Int) (h0 : 0 ≤ n) (h1 : n ≤ 4611686018427387904) : plainS n = (lowL n (digs 8 n)).reverse ∧ lowS n (digs 8 n : Int) = (if n = 0 then ([], 2) else (lowL n (digs 8 n), 0)) := by
 have h8 : n / 2 ^ (8 * 8) = 0 := by rw [show (2 : Int) ^ (8 * 8) = 18446744073709551616 by rfl]; omega
 obtain ⟨a, b, c⟩ := strip 8 n h0 h8
 have e : lowS n 8 = (lowL n 8, 0) := by
  unfold lowS lowBad
  simp [h0, h1] <;> omega
 refine ⟨by unfold plainS; rw [e]; exact a, ?_⟩
 have hle := digs_le 8 n
 unfold lowS lowBad
 by_cases hn : n = 0
 ·subst hn
  simp [digs]
 ·rw [if_neg hn]
  have := b (by omega)
  rw [Int.toNat_natCast, c]
  have e2 : (decide ((digs 8 n : Int) < 1) || decide ((digs 8 n : Int) > 8) || decide (n < 0) || decide (n > 4611686018427387904) || (decide ((digs 8 n : Int) < 8) && decide ((0 : Int) ≠ 0))) = false := by
   rw [decide_eq_false (show ¬ (digs 8 n : Int) < 1 by omega), decide_eq_false (show ¬ (digs 8 n : Int) > 8 by omega), decide_eq_false (show ¬ n < 0 by omega), decide_eq_false (show ¬ n > 4611686018427387904 by omega)]
   simp
  rw [e2]
  rfl
theorem plain_l0 : ∀ (l : List Int) (k : Nat), l.length < k → codec_plain.l0 k l = some (l.dropWhile (fun x => x == 0)) := by
 intro l
 induction l with
 | nil =>
  intro k hk
  obtain ⟨k, rfl, _⟩ := rounds_ex (m := 0) (by omega : 0 + 1 ≤ k)
  simp [codec_plain.l0]
 | cons x t ih =>
  intro k hk
  obtain ⟨k, rfl, hk'⟩ := rounds_ex (m := t.length + 1) (by simp at hk; omega : t.length + 1 + 1 ≤ k)
  simp only [codec_plain.l0]
  rw [if_pos (by simp <;> omega), if_pos (by simp <;> omega)]
  by_cases h : x = 0
  ·subst h
   rw [if_pos (by rfl), if_pos (by simp <;> omega)]
   rw [show List.drop (1 : Int).toNat ((0 : Int) :: t) = t from rfl, ih k (by omega)]
   simp
  ·rw [if_neg (by simpa [rd] using h)]
   simp [h]
theorem plain_ev (n : Int) (k : Nat) (hk : 20 ≤ k) : codec_plain.f k n = some (plainS n) := by
 unfold codec_plain.f
 rw [word_put n 8 k (by omega)]
 simp only [Option.bind_some]
 have := lowS_length n 8
 rw [plain_l0 _ k (by simp <;> omega)]
 rfl
theorem plainS_len (n : Int) : (plainS n).length ≤ 8 := by
 have := lowS_length n 8
 have h2 := (List.dropWhile_sublist (l := (lowS n 8).1.reverse) (fun x => x == 0)).length_le
 unfold plainS
 simp at h2 ⊢
 omega
theorem low_ok (n : Nat) (s : Nat) (h1 : 1 ≤ s) (h2 : s ≤ 8) (h3 : (n : Int) / 2 ^ (8 * s) = 0) (h4 : n ≤ 4611686018427387904) : lowS (n : Int) (s : Int) = (lowL n s, 0) := by
 unfold lowS lowBad
 rw [Int.toNat_natCast, h3]
 simp
 omega
set_option maxHeartbeats 4000000
theorem num_le (n : Nat) (s : Nat) (hs : n < 2 ^ (8 * s)) : (n : Int) / 2 ^ (8 * s) = 0 := by
 refine Int.ediv_eq_zero_of_lt (by omega) ?_
 exact_mod_cast hs
theorem Ev.fin {α : Type} {g : Nat → Option α} {r : α} (K : Nat) (h : ∀ k, K ≤ k → g k = some r) : Ev g r := ⟨K, h⟩
theorem put_ev_n (n s : Int) : Ev (fun k => word_Put.f k n s) ((lowS n s).1.reverse, (lowS n s).2) := Ev.fin 12 (fun k hk => word_put n s k hk)
theorem ixS (l : List S43) (i : Nat) (h : i < l.length) : l.drop i = rd_T43 l (i : Int) :: l.drop (i + 1) := getD_drop l z43 i h
theorem memS (l : List S43) (i : Nat) (h : i < l.length) : rd_T43 l (i : Int) ∈ l := by
 have := List.mem_of_mem_drop (i := i) (l := l) (a := rd_T43 l (i : Int)) (by rw [ixS l i h]; exact List.mem_cons_self)
 exact this
theorem put_ev (v : S43) : Small v → pureS v = true → ∀ out : List Int, out.length + (bytesS v).length ≤ 100000000000 → Ev (fun k => codec_put.f k out v.f0 v.f1 v.f2 v.f3) (out ++ bytesS v) := by
 refine S_ind (P := fun v => Small v → pureS v = true → ∀ out : List Int, out.length + (bytesS v).length ≤ 100000000000 → Ev (fun k => codec_put.f k out v.f0 v.f1 v.f2 v.f3) (out ++ bytesS v)) (fun v ih hs hp out ho => ?_) v
 have hl2 := hs.len2
 have hl3 := hs.len3
 have hsub := hs.sub
 obtain ⟨f0, f1, f2, f3⟩ := v
 simp only [pureS] at hp
 simp only [bytesS] at ho ⊢
 simp only at hl2 hl3 ih hsub
 by_cases h1 : f0 = 1
 ·subst h1
  simp only [if_true, Bool.and_eq_true, decide_eq_true_eq] at hp ho ⊢
  obtain ⟨⟨⟨p1, p2⟩, _⟩, _⟩ := hp
  refine Ev.step (f := fun k => (codec_plain.f k f1).bind fun b => if out.length + 2 + b.length ≤ 140737488355328 then some (out ++ [1, (b.length : Int) % 256] ++ b) else none) (fun k => by simp only [codec_put.f, if_true]) ?_
  refine Ev.bind (a := plainS f1) (Ev.fin 20 (fun k hk => plain_ev f1 k hk)) ?_
  have := plainS_len f1
  simp only [if_pos (show out.length + 2 + (plainS f1).length ≤ 140737488355328 by omega)]
  have e : out ++ [1, ((plainS f1).length : Int) % 256] ++ plainS f1 = out ++ numB f1 := by
   rw [(plain_num f1 p1 p2).1, List.append_assoc]
   unfold numB
   have hd := digs_le 8 f1
   rw [List.length_reverse, lowL_length, show ((digs 8 f1 : Nat) : Int) % 256 = (digs 8 f1 : Int) by omega]
   rfl
  rw [e]
  exact Ev.now _
 rw [if_neg h1] at hp ho ⊢
 by_cases h2 : f0 = 2
 ·subst h2
  simp only [if_true] at ho ⊢
  refine Ev.step (f := fun k => (word_Put.f k (f2.length : Int) 3).bind fun n => if out.length + 1 + n.1.length + f2.length ≤ 140737488355328 then some (out ++ [2] ++ n.1 ++ f2) else none) (fun k => by simp only [codec_put.f, if_true, show ¬ (2 : Int) = 1 by decide, if_false]) ?_
  refine Ev.bind (put_ev_n _ _) ?_
  rw [show (3 : Int) = ((3 : Nat) : Int) from rfl, low_ok f2.length 3 (by omega) (by omega) (num_le _ _ (by omega)) (by omega)]
  have hq : out.length + 1 + ((lowL (f2.length : Int) 3).reverse).length + f2.length ≤ 140737488355328 := by rw [List.length_reverse, lowL_length]; omega
  simp only [if_pos hq]
  rw [show out ++ [2] ++ (lowL (f2.length : Int) 3).reverse ++ f2 = out ++ ([2] ++ (lowL (f2.length : Int) 3).reverse ++ f2) by simp]
  exact Ev.now _
 ·rw [if_neg h2] at hp ho ⊢
  by_cases h3 : f0 = 3
  ·subst h3
   simp only [if_true, Bool.and_eq_true, decide_eq_true_eq] at hp
   obtain ⟨⟨⟨_, _⟩, p3⟩, p4⟩ := hp
   refine Ev.step (f := fun k => (word_Put.f k (f3.length : Int) 2).bind fun n => if out.length + 1 + n.1.length ≤ 140737488355328 then f3.foldlM (fun o x => codec_put.f k o x.f0 x.f1 x.f2 x.f3) (out ++ [3] ++ n.1) else none) (fun k => by simp only [codec_put.f, show ¬ (3 : Int) = 1 by decide, show ¬ (3 : Int) = 2 by decide, if_false]) ?_
   refine Ev.bind (put_ev_n _ _) ?_
   rw [show (2 : Int) = ((2 : Nat) : Int) from rfl, low_ok f3.length 2 (by omega) (by omega) (num_le _ _ (by omega)) (by omega)]
   have hlen : ((lowL (f3.length : Int) 2).reverse).length = 2 := by rw [List.length_reverse, lowL_length]
   have hq : out.length + 1 + ((lowL (f3.length : Int) 2).reverse).length ≤ 140737488355328 := by omega
   simp only [if_pos hq]
   have ho' : (out ++ [3] ++ (lowL (f3.length : Int) 2).reverse).length + (bytesL f3).length ≤ 100000000000 := by
    simp only [List.length_append, List.length_singleton] at ho ⊢
    omega
   rw [show out ++ ([3] ++ (lowL (f3.length : Int) 2).reverse ++ bytesL f3) = (out ++ [3] ++ (lowL (f3.length : Int) 2).reverse) ++ bytesL f3 by simp]
   generalize out ++ [3] ++ (lowL (f3.length : Int) 2).reverse = o at ho' ⊢
   clear ho hq hl3 hs p3 hlen
   induction f3 generalizing o with
   | nil => simp only [List.foldlM_nil, bytesL, List.append_nil]; exact Ev.now _
   | cons x t iht =>
    simp only [pureL, Bool.and_eq_true] at p4
    simp only [bytesL, List.length_append] at ho'
    simp only [List.foldlM_cons, bytesL]
    refine Ev.bind (ih x (by simp) (hsub x (by simp)) p4.1 o (by omega)) ?_
    rw [← List.append_assoc]
    exact iht (fun y hy => ih y (by simp [hy])) (fun y hy => hsub y (by simp [hy])) p4.2 _ (by simp only [List.length_append]; omega)
  ·rw [if_neg h3] at hp
   cases hp
def goodS (v : S43) (deep : Int) : Prop := pureS v = true ∧ (deepS v : Int) ≤ deep
structure Meas (v : S43) (room : Int) (deep : Int) (n : Int) (ok : Bool) : Prop where
 yes : ok = true → goodS v deep ∧ n = (bytesS v).length
 no : ok = false → n = 0
 fits : goodS v deep → ((bytesS v).length : Int) ≤ room → ok = true
theorem pure_ev (v : S43) (h2 : v.f2.length ≤ 100000) : codec_pure.f v.f0 v.f1 v.f2 v.f3 = some (if v.f0 = 1 then decide (v.f1 ≥ 0) && decide (v.f1 ≤ 4611686018427387904) && v.f2.isEmpty && v.f3.isEmpty else if v.f0 = 2 then decide (v.f1 = 0) && v.f3.isEmpty else if v.f0 = 3 then decide (v.f1 = 0) && v.f2.isEmpty && decide (v.f3.length ≤ 4096) else false) := by
 have e2 : ∀ l : List Int, ((l.length : Int) == 0) = l.isEmpty := by intro l; cases l <;> simp <;> omega
 have e3 : ∀ l : List S43, ((l.length : Int) == 0) = l.isEmpty := by intro l; cases l <;> simp <;> omega
 have d2 : ∀ l : List Int, ((l.length : Int) = 0) ↔ l.isEmpty = true := by intro l; rw [← e2]; simp
 unfold codec_pure.f
 by_cases h1 : v.f0 = 1
 ·rw [if_pos h1, if_pos h1]
  by_cases a1 : v.f1 ≥ 0
  ·rw [if_pos a1]
   by_cases a2 : v.f1 ≤ 4611686018427387904
   ·rw [if_pos a2]
    by_cases a3 : (v.f2.length : Int) = 0
    ·rw [if_pos a3, e3, (d2 v.f2).1 a3]; simp [a1, a2]
    ·rw [if_neg a3, show v.f2.isEmpty = false by cases hh : v.f2.isEmpty; rfl; exact absurd ((d2 v.f2).2 hh) a3]; simp
   ·rw [if_neg a2]; simp [a2]
  ·rw [if_neg a1]; simp [a1]
 rw [if_neg h1, if_neg h1]
 by_cases h2' : v.f0 = 2
 ·rw [if_pos h2', if_pos h2']
  by_cases a1 : v.f1 = 0
  ·rw [if_pos a1, if_pos (by omega), e3]; simp [a1]
  ·rw [if_neg a1]; simp [a1]
 rw [if_neg h2', if_neg h2']
 by_cases h3 : v.f0 = 3
 ·rw [if_pos h3, if_pos h3]
  by_cases a1 : v.f1 = 0
  ·rw [if_pos a1]
   by_cases a3 : (v.f2.length : Int) = 0
   ·rw [if_pos a3, (d2 v.f2).1 a3]; simp [a1]; omega
   ·rw [if_neg a3, show v.f2.isEmpty = false by cases hh : v.f2.isEmpty; rfl; exact absurd ((d2 v.f2).2 hh) a3]; simp
  ·rw [if_neg a1]; simp [a1]
 ·rw [if_neg h3, if_neg h3]
theorem pure_v (v : S43) (h2 : v.f2.length ≤ 100000) : codec_pure.f v.f0 v.f1 v.f2 v.f3 = some true ∧ (v.f0 = 3 → (pureS v = pureL v.f3)) ∧ (v.f0 ≠ 3 → pureS v = true) ∨ codec_pure.f v.f0 v.f1 v.f2 v.f3 = some false ∧ pureS v = false := by
 rw [pure_ev v h2]
 obtain ⟨f0, f1, f2, f3⟩ := v
 simp only [pureS]
 by_cases h1 : f0 = 1
 ·subst h1
  simp only [if_true]
  cases hb : (decide (f1 ≥ 0) && decide (f1 ≤ 4611686018427387904) && f2.isEmpty && f3.isEmpty) <;> simp
 rw [if_neg h1, if_neg h1]
 by_cases h2 : f0 = 2
 ·subst h2
  simp only [if_true]
  cases hb : (decide (f1 = 0) && f3.isEmpty) <;> simp
 rw [if_neg h2, if_neg h2]
 by_cases h3 : f0 = 3
 ·subst h3
  simp only [if_true]
  cases hb : (decide (f1 = 0) && f2.isEmpty && decide (f3.length ≤ 4096)) <;> simp
 ·rw [if_neg h3, if_neg h3]
  simp
theorem deepS_le (v : S43) (d : Int) : (deepS v : Int) ≤ d ↔ 0 ≤ d ∧ (v.f0 = 3 → 1 ≤ d ∧ (deepL v.f3 : Int) ≤ d - 1) := by
 obtain ⟨f0, f1, f2, f3⟩ := v
 simp only [deepS]
 by_cases h3 : f0 = 3
 ·simp only [h3, if_true, forall_const]; omega
 ·simp only [h3, if_false, false_implies, and_true]; omega
theorem num_len (f1 : Int) (h0 : 0 ≤ f1) (h1 : f1 ≤ 4611686018427387904) : (numB f1).length = 2 + (plainS f1).length := by
 rw [(plain_num f1 h0 h1).1]; simp [numB]; omega
theorem goodL_all (l : List S43) (d : Int) (h0 : 0 ≤ d) : (pureL l = true ∧ (deepL l : Int) ≤ d) ↔ ∀ x ∈ l, goodS x d := by
 induction l with
 | nil => simp [pureL, deepL, h0]
 | cons x t ih =>
  rw [List.forall_mem_cons, ← ih]
  simp only [pureL, deepL, Bool.and_eq_true, goodS]
  constructor
  ·rintro ⟨⟨a, b⟩, c⟩; exact ⟨⟨a, by omega⟩, b, by omega⟩
  ·rintro ⟨⟨a, b⟩, c, e⟩; exact ⟨⟨a, c⟩, by omega⟩
theorem measL (room d : Int) (l : List S43) (hl : l.length ≤ 100000) (hb : (bytesL l).length ≤ 20000000000) (hr0 : room ≤ 1048576) (hr : 0 ≤ room) (hd0 : 0 ≤ d) (hd1 : d ≤ 16)
  (ih : ∀ x ∈ l, ∀ r : Int, r ≤ 1048576 → -30000000000 ≤ r → ∃ n ok, Ev (fun k => codec_measure.f k x.f0 x.f1 x.f2 x.f3 r (d - 1)) (n, ok) ∧ Meas x r (d - 1) n ok) :
  ∀ (j i : Nat) (s : Int), i + j = l.length → 3 ≤ s → s + (bytesL (l.drop i)).length ≤ 20000000003 → ∃ n ok, Ev (fun k => codec_measure.l0 k room d s l (l.length : Int) i) (n, ok) ∧
   (ok = true → (∀ x ∈ l.drop i, goodS x (d - 1)) ∧ n = s + (bytesL (l.drop i)).length) ∧ (ok = false → n = 0) ∧ ((∀ x ∈ l.drop i, goodS x (d - 1)) → s + (bytesL (l.drop i)).length ≤ room → ok = true) := by
 intro j
 induction j with
 | zero =>
  intro i s hi h3 hs
  refine ⟨s, true, Ev.some_ (fun k => by simp only [codec_measure.l0]; rw [if_neg (by omega)]), ?_⟩
  rw [drop_end l i (by omega)]
  simp [bytesL]
 | succ j ihj =>
  intro i s hi h3 hs
  have hlt : i < l.length := by omega
  rw [ixS l i hlt] at hs ⊢
  simp only [bytesL, List.length_append] at hs ⊢
  have hm := memS l i hlt
  obtain ⟨n1, ok1, e1, m1⟩ := ih (rd_T43 l (i : Int)) hm (room - s) (by omega) (by omega)
  have ew : wrap64 (room - s) = room - s := w64i (by omega) (by omega)
  have ed : wrap64 (d - 1) = d - 1 := w64i (by omega) (by omega)
  have ei : wrap64 ((i : Int) + 1) = ((i + 1 : Nat) : Int) := ix_next i (by omega)
  have step : ∀ k, codec_measure.l0 (k + 1) room d s l (l.length : Int) i = (codec_measure.f k (rd_T43 l (i : Int)).f0 (rd_T43 l (i : Int)).f1 (rd_T43 l (i : Int)).f2 (rd_T43 l (i : Int)).f3 (room - s) (d - 1)).bind fun bt => if bt.2 = true then codec_measure.l0 k room d (wrap64 (s + bt.1)) l (l.length : Int) ((i + 1 : Nat) : Int) else some (0, false) := by
   intro k
   simp only [codec_measure.l0]
   simp only [if_pos (Int.ofNat_lt.2 hlt), if_pos (Int.natCast_nonneg i)]
   rw [ew, ed, ei]
  cases ok1 with
  | false =>
   refine ⟨0, false, Ev.step step (Ev.bind e1 (Ev.now (0, false))), fun h => (by cases h), fun _ => rfl, fun hg hle => ?_⟩
   have := m1.fits (hg _ (by simp)) (by omega)
   cases this
  | true =>
   obtain ⟨g1, rfl⟩ := m1.yes rfl
   have es : wrap64 (s + (bytesS (rd_T43 l (i : Int))).length) = s + (bytesS (rd_T43 l (i : Int))).length := w64i (by omega) (by omega)
   obtain ⟨n, ok, e2, y2, n2, f2⟩ := ihj (i + 1) (s + (bytesS (rd_T43 l (i : Int))).length) (by omega) (by omega) (by omega)
   refine ⟨n, ok, Ev.step step (Ev.bind e1 ?_), fun h => ⟨?_, ?_⟩, n2, fun hg hle => f2 (fun x hx => hg x (by simp [hx])) (by omega)⟩
   ·simp only [if_true, es]
    exact e2
   ·intro x hx
    rcases List.mem_cons.1 hx with rfl | hx
    ·exact g1
    ·exact (y2 h).1 x hx
   ·rw [(y2 h).2]; omega
theorem meas_ev (v : S43) : Small v → ∀ (room d : Int), room ≤ 1048576 → -30000000000 ≤ room → -1 ≤ d → d ≤ 16 → ∃ n ok, Ev (fun k => codec_measure.f k v.f0 v.f1 v.f2 v.f3 room d) (n, ok) ∧ Meas v room d n ok := by
 refine S_ind (P := fun v => Small v → ∀ (room d : Int), room ≤ 1048576 → -30000000000 ≤ room → -1 ≤ d → d ≤ 16 → ∃ n ok, Ev (fun k => codec_measure.f k v.f0 v.f1 v.f2 v.f3 room d) (n, ok) ∧ Meas v room d n ok) (fun v ih hs room d hr1 hr0 hd0 hd1 => ?_) v
 have hbl := bytes_len v hs.ok
 have hcnt := hs.cnt
 have bad : ∀ b : Bool, codec_pure.f v.f0 v.f1 v.f2 v.f3 = some true → (if room < 0 then true else decide (d < 0)) = true → ∃ n ok, Ev (fun k => codec_measure.f k v.f0 v.f1 v.f2 v.f3 room d) (n, ok) ∧ Meas v room d n ok := by
  intro _ hp hb
  refine ⟨0, false, Ev.step (f := fun k => codec_measure.j0 k room d true v.f0 v.f1 v.f2 v.f3) (fun k => ?_) (Ev.some_ (fun k => by simp only [codec_measure.j0, if_true])), fun h => (by cases h), fun _ => rfl, fun hg hle => ?_⟩
  ·simp only [codec_measure.f, hp, Option.bind_some, if_true]
   by_cases hr : room < 0
   ·rw [if_pos hr]
   ·rw [if_neg hr] at hb ⊢; rw [hb]
  ·by_cases hr : room < 0
   ·omega
   ·rw [if_neg hr] at hb
    have hb := of_decide_eq_true hb
    have := hg.2
    omega
 rcases pure_v v hs.len2 with ⟨hp, hp3, hpn⟩ | ⟨hp, hpS⟩
 ·by_cases hb : (if room < 0 then true else decide (d < 0)) = true
  ·exact bad true hp hb
  have hr : ¬ room < 0 := fun h => hb (by rw [if_pos h])
  have hd : ¬ d < 0 := fun h => hb (by rw [if_neg hr]; exact decide_eq_true h)
  have st : ∀ (g : Nat → Option (Int × Bool)), (∀ k, codec_measure.j0 (k + 1) room d false v.f0 v.f1 v.f2 v.f3 = g k) → ∀ r, Ev g r → Ev (fun k => codec_measure.f k v.f0 v.f1 v.f2 v.f3 room d) r := by
   intro g hg r e
   refine Ev.step (f := fun k => codec_measure.j0 k room d false v.f0 v.f1 v.f2 v.f3) (fun k => ?_) (Ev.step (f := g) hg e)
   simp only [codec_measure.f, hp, Option.bind_some, if_true]
   rw [if_neg hr, decide_eq_false hd]
  obtain ⟨f0, f1, f2, f3⟩ := v
  simp only at hp hp3 hpn st ih
  by_cases h1 : f0 = 1
  ·subst h1
   have hpS := hpn (by decide)
   have hpS2 := hpS
   simp only [pureS, if_true, Bool.and_eq_true, decide_eq_true_eq] at hpS2
   have hn := num_len f1 hpS2.1.1.1 hpS2.1.1.2
   have hl := plainS_len f1
   refine ⟨2 + (plainS f1).length, true, st (fun k => (codec_plain.f k f1).bind fun t => some (wrap64 (2 + (t.length : Int)), true)) (fun k => by simp [codec_measure.j0]) _ ?_, fun _ => ⟨⟨hpS, (deepS_le _ _).2 ⟨by omega, fun h => by cases h⟩⟩, ?_⟩, fun h => (by cases h), fun _ _ => rfl⟩
   ·refine Ev.bind (a := plainS f1) (Ev.fin 20 (fun k hk => plain_ev f1 k hk)) ?_
    rw [w64i (by omega) (by omega)]
    exact Ev.now _
   ·simp only [bytesS, if_true]
    rw [hn]
    omega
  by_cases h2 : f0 = 2
  ·subst h2
   have hpS := hpn (by decide)
   have hl2 := hs.len2
   simp only at hl2
   refine ⟨4 + f2.length, true, st (fun k => some (4 + f2.length, true)) (fun k => by simp only [codec_measure.j0]; simp; rw [w64i (by omega) (by omega)]) _ (Ev.now _), fun _ => ⟨⟨hpS, (deepS_le _ _).2 ⟨by omega, fun h => by cases h⟩⟩, ?_⟩, fun h => (by cases h), fun _ _ => rfl⟩
   simp [bytesS, lowL_length]
   omega
  by_cases h3 : f0 = 3
  ·subst h3
   have e3 := hp3 rfl
   by_cases hd0 : d = 0
   ·subst hd0
    refine ⟨0, false, st (fun k => some (0, false)) (fun k => by simp [codec_measure.j0]) _ (Ev.now _), fun h => (by cases h), fun _ => rfl, fun hg hle => ?_⟩
    have := ((deepS_le _ _).1 hg.2).2 rfl
    omega
   ·have hsub := hs.sub
    have hl3 := hs.len3
    simp only at hsub hl3
    have hb3 : (bytesL f3).length ≤ 20000000000 := by
     simp only [bytesS] at hbl
     simp at hbl
     omega
    obtain ⟨n, ok, e, y, no, fi⟩ := measL room d f3 hl3 hb3 hr1 (by omega) (by omega) hd1 (fun x hx r h1 h2 => ih x hx (hsub x hx) r (d - 1) h1 h2 (by omega) (by omega)) f3.length 0 3 (by omega) (by omega) (by simp; omega)
    simp only [List.drop_zero] at y fi
    have hlen : (bytesS (⟨3, f1, f2, f3⟩ : S43)).length = 3 + (bytesL f3).length := by simp [bytesS, lowL_length]; omega
    have hgood : goodS (⟨3, f1, f2, f3⟩ : S43) d ↔ ∀ x ∈ f3, goodS x (d - 1) := by
     rw [← goodL_all f3 (d - 1) (by omega)]
     unfold goodS
     rw [e3, deepS_le]
     simp only [forall_const]
     constructor
     ·rintro ⟨a, _, _, b⟩; exact ⟨a, b⟩
     ·rintro ⟨a, b⟩; exact ⟨a, by omega, by omega, b⟩
    refine ⟨n, ok, st (fun k => codec_measure.l0 k room d 3 f3 (f3.length : Int) 0) (fun k => by simp [codec_measure.j0, hd0]) _ e, fun h => ⟨hgood.2 (y h).1, ?_⟩, no, fun hg hle => fi (hgood.1 hg) (by rw [hlen] at hle; omega)⟩
    rw [hlen, (y h).2]
    omega
  ·exfalso
   have := hpn h3
   simp [pureS, h1, h2, h3] at this
 ·refine ⟨0, false, Ev.step (f := fun k => codec_measure.j0 k room d true v.f0 v.f1 v.f2 v.f3) (fun k => by simp [codec_measure.f, hp]) (Ev.some_ (fun k => by simp only [codec_measure.j0, if_true])), fun h => (by cases h), fun _ => rfl, fun hg hle => ?_⟩
  have := hg.1
  rw [hpS] at this
  cases this
theorem rd_get (l : List Int) (i : Nat) (h : i < l.length) : rd l (i : Int) = l[i] := by
 unfold rd
 simp [List.getD, List.getElem?_eq_getElem h]
theorem same_l0 (a b : List Int) (hl : a.length = b.length) (hm : a.length ≤ 4611686018427387904) : ∀ (d k i : Nat), i + d = a.length → d < k →
  bastilleref01_Same.l0 k a b (i : Int) = some (decide (a.drop i = b.drop i)) := by
 intro d
 induction d with
 | zero =>
  intro k i h1 hk
  obtain ⟨k, rfl, _⟩ := rounds_ex (m := 0) (by omega : 0 + 1 ≤ k)
  simp only [bastilleref01_Same.l0]
  rw [if_neg (by omega), List.drop_of_length_le (by omega), List.drop_of_length_le (by omega)]
  simp
 | succ d ih =>
  intro k i h1 hk
  obtain ⟨k, rfl, hk'⟩ := rounds_ex (m := d + 1) (by omega : d + 1 + 1 ≤ k)
  simp only [bastilleref01_Same.l0]
  rw [if_pos (by omega), if_pos (by omega), if_pos (by omega), rd_get a i (by omega), rd_get b i (by omega), w64i (by omega) (by omega)]
  rw [List.drop_eq_getElem_cons (show i < a.length by omega), List.drop_eq_getElem_cons (show i < b.length by omega)]
  have := ih k (i + 1) (by omega) (by omega)
  rw [show (((i + 1 : Nat)) : Int) = (i : Int) + 1 by omega] at this
  by_cases h : a[i] = b[i]
  ·rw [if_pos h, this]
   congr 1
   exact decide_eq_decide.mpr (by rw [h]; exact ⟨fun e => by rw [e], fun e => (List.cons.inj e).2⟩)
  ·rw [if_neg h]
   exact congrArg some (decide_eq_false (fun e => h (List.cons.inj e).1)).symm
theorem same_ev (a b : List Int) (hm : a.length ≤ 4611686018427387904) (k : Nat) (hk : a.length + 1 ≤ k) : bastilleref01_Same.f k a b = some (decide (a = b)) := by
 unfold bastilleref01_Same.f
 by_cases h : a.length = b.length
 ·rw [if_pos (by omega)]
  have := same_l0 a b h hm a.length k 0 (by omega) (by omega)
  simpa using this
 ·rw [if_neg (by omega)]
  simp
  intro e
  exact h (by rw [e])
theorem same_refl (a : List Int) (hm : a.length ≤ 4611686018427387904) (k : Nat) (hk : a.length + 1 ≤ k) : bastilleref01_Same.f k a a = some true := by
 rw [same_ev a a hm k hk]; simp
def rightS (v : S43) : Bool := pureS v && decide (deepS v ≤ 16) && decide ((bytesS v).length ≤ 1048576)
theorem size_ev (v : S43) (hs : Small v) : Ev (fun k => codec_Size.f k v.f0 v.f1 v.f2 v.f3) (if rightS v = true then ((bytesS v).length : Int) else 0, rightS v) := by
 obtain ⟨n, ok, e, m⟩ := meas_ev v hs 1048576 16 (by omega) (by omega) (by omega) (by omega)
 unfold codec_Size.f
 refine Ev.bind e ?_
 cases ok with
 | false =>
  have hr : rightS v = false := by
   cases h : rightS v with
   | false => rfl
   | true =>
    simp only [rightS, Bool.and_eq_true, decide_eq_true_eq] at h
    have := m.fits ⟨h.1.1, by omega⟩ (by omega)
    cases this
  rw [hr]
  exact Ev.now _
 | true =>
  obtain ⟨⟨g1, g2⟩, hn⟩ := m.yes rfl
  simp only [if_true]
  by_cases hb : n > 1048576
  ·rw [if_pos hb, show rightS v = false by simp [rightS]; omega]
   exact Ev.now _
  ·rw [if_neg hb, show rightS v = true by simp [rightS, g1]; omega, hn]
   exact Ev.now _
theorem encode_ev (v : S43) (hs : Small v) : Ev (fun k => codec_Encode.f k v.f0 v.f1 v.f2 v.f3) (if rightS v = true then (bytesS v, 0) else ([], 2)) := by
 unfold codec_Encode.f
 refine Ev.bind (size_ev v hs) ?_
 cases hr : rightS v with
 | false => exact Ev.now _
 | true =>
  simp only [if_true]
  simp only [rightS, Bool.and_eq_true, decide_eq_true_eq] at hr
  refine Ev.bind (put_ev v hs hr.1.1 [] (by simp; omega)) (Ev.now _)
def ByteOk (b : List Int) : Prop := ∀ x ∈ b, 0 ≤ x ∧ x ≤ 255
theorem byteOk_of {b : List Int} (h : ∀ x ∈ b, (Lit.int .u8 x).wf = true) : ByteOk b := by
 intro x hx
 have := h x hx
 simp [Lit.wf, IntKind.min, IntKind.max, IntKind.signed, IntKind.bits] at this
 omega
def numA (acc : Int) (b : List Int) : Int := b.foldl (fun x c => 256 * x + c) acc
def numL (b : List Int) : Int := numA 0 b
theorem numA_ge (b : List Int) : ∀ acc, 0 ≤ acc → ByteOk b → acc ≤ numA acc b := by
 induction b with
 | nil => intro acc _ _; exact Int.le_refl _
 | cons c t ih =>
  intro acc h0 hb
  have hc := hb c (by simp)
  have := ih (256 * acc + c) (by omega) (fun x hx => hb x (by simp [hx]))
  show acc ≤ numA (256 * acc + c) t
  omega
def getS (b : List Int) : Int × Int := if b.length = 0 then (0, 10) else if b.length > 8 then (0, 2) else if numL b > 4611686018427387904 then (0, 11) else (numL b, 0)
theorem pow7 (i : Nat) (h : i ≤ 7) : (256 : Int) ^ i ≤ 72057594037927936 := by
 obtain rfl | rfl | rfl | rfl | rfl | rfl | rfl | rfl : i = 0 ∨ i = 1 ∨ i = 2 ∨ i = 3 ∨ i = 4 ∨ i = 5 ∨ i = 6 ∨ i = 7 := by omega
 all_goals decide
theorem or_byte (a c : Int) (h0 : 0 ≤ a) (h1 : a ≤ 72057594037927935) (h2 : 0 ≤ c) (h3 : c ≤ 255) : Go.bits .or .u64 (IntKind.u64.wrap (a * 256)) (IntKind.u64.wrap c) = 256 * a + c := by
 obtain ⟨a, rfl⟩ := Int.eq_ofNat_of_zero_le h0
 obtain ⟨c, rfl⟩ := Int.eq_ofNat_of_zero_le h2
 rw [u64i (by omega) (by omega), u64i (by omega) (by omega)]
 have e : ((a : Int) * 256) = ((a * 256 : Nat) : Int) := by omega
 rw [e]
 refine (u64_or_nat (a * 256) c (by omega) (by omega)).trans ?_
 have := Nat.two_pow_add_eq_or_of_lt (i := 8) (b := c) (by omega) a
 rw [show a * 256 = 2 ^ 8 * a by omega, ← this]
 omega
theorem byteOk_reverse {b : List Int} (h : ByteOk b) : ByteOk b.reverse := fun x hx => h x (List.mem_reverse.1 hx)
theorem word_get_l0 (b : List Int) (hb : ByteOk b) (hl : b.length ≤ 8) : ∀ (d k i : Nat) (acc : Int), i + d = b.length → 0 ≤ acc → acc < 256 ^ i → d < k →
  word_Get.l0 k acc b (b.length : Int) (i : Int) = some (if numA acc (b.drop i) > 4611686018427387904 then (0, 11) else (wrap64 (numA acc (b.drop i)), 0)) := by
 intro d
 induction d with
 | zero =>
  intro k i acc h1 h2 h3 hk
  obtain ⟨k, rfl, _⟩ := rounds_ex (m := 0) (by omega : 0 + 1 ≤ k)
  simp only [word_Get.l0]
  rw [if_neg (by omega), List.drop_of_length_le (by omega), show numA acc [] = acc from rfl]
  split <;> rfl
 | succ d ih =>
  intro k i acc h1 h2 h3 hk
  obtain ⟨k, rfl, hk'⟩ := rounds_ex (m := d + 1) (by omega : d + 1 + 1 ≤ k)
  have hc := hb b[i] (List.getElem_mem (by omega))
  have hp := pow7 i (by omega)
  simp only [word_Get.l0]
  rw [if_pos (by omega), if_pos (by omega), if_pos (by omega), rd_get b i (by omega), or_byte acc b[i] h2 (by omega) hc.1 hc.2, w64i (by omega) (by omega)]
  have := ih k (i + 1) (256 * acc + b[i]) (by omega) (by omega) (by rw [Int.pow_succ]; omega) (by omega)
  rw [show (((i + 1 : Nat)) : Int) = (i : Int) + 1 by omega] at this
  rw [this, List.drop_eq_getElem_cons (show i < b.length by omega)]
  rfl
theorem word_get (b : List Int) (hb : ByteOk b) (k : Nat) (hk : 10 ≤ k) : word_Get.f k b = some (getS b) := by
 unfold word_Get.f getS
 by_cases h1 : b.length = 0
 ·rw [if_pos (by omega), if_pos h1]
 by_cases h2 : b.length > 8
 ·rw [if_neg (by omega), if_pos (by omega), if_neg h1, if_pos h2]
 rw [if_neg (by omega), if_neg (by omega), if_neg h1, if_neg h2]
 have := word_get_l0 b hb (by omega) b.length k 0 0 (by omega) (by omega) (by decide) (by omega)
 rw [show ((0 : Nat) : Int) = 0 by rfl] at this
 rw [this, List.drop_zero]
 have h3 := numA_ge b 0 (by omega) hb
 show some (if numL b > _ then _ else _) = _
 have h4 : 0 ≤ numL b := h3
 by_cases h5 : numL b > 4611686018427387904
 ·rw [if_pos h5, if_pos h5]
 ·rw [if_neg h5, if_neg h5]
  show some (wrap64 (numL b), (0 : Int)) = _
  rw [w64i (by omega) (by omega)]
theorem numA_snoc (acc : Int) (l : List Int) (c : Int) : numA acc (l ++ [c]) = 256 * numA acc l + c := by simp [numA, List.foldl_append]
theorem low_num (r : List Int) : ByteOk r → lowL (numL r.reverse) r.length = r := by
 induction r with
 | nil => intro _; rfl
 | cons c t ih =>
  intro hb
  have hc := hb c (by simp)
  rw [List.length_cons, lowL_succ, List.reverse_cons]
  unfold numL
  rw [numA_snoc]
  rw [show (256 * numA 0 t.reverse + c) % 256 = c by omega, show (256 * numA 0 t.reverse + c) / 256 = numA 0 t.reverse by omega]
  rw [show numA 0 t.reverse = numL t.reverse from rfl, ih (fun x hx => hb x (by simp [hx]))]
theorem num_lt (r : List Int) : ByteOk r → 0 ≤ numL r.reverse ∧ numL r.reverse < 2 ^ (8 * r.length) := by
 induction r with
 | nil => intro _; exact ⟨by decide, by decide⟩
 | cons c t ih =>
  intro hb
  have hc := hb c (by simp)
  have := ih (fun x hx => hb x (by simp [hx]))
  rw [List.reverse_cons]
  unfold numL at *
  rw [numA_snoc, List.length_cons, show (2 : Int) ^ (8 * (t.length + 1)) = 256 * 2 ^ (8 * t.length) by rw [show 8 * (t.length + 1) = 8 * t.length + 8 by omega, Int.pow_add]; omega]
  omega
def dNum : List Int → Except Int (Int × List Int)
 | [] => .error 10
 | n :: b => if n > 8 then .error 11 else if b.length < n.toNat then .error 10 else if n = 0 then .ok (0, b) else
   if numL (b.take n.toNat) > 4611686018427387904 then .error 11 else if rd (b.take n.toNat) 0 = 0 then .error 11 else .ok (numL (b.take n.toNat), b.drop n.toNat)
def dRaw (b : List Int) : Except Int (List Int × List Int) :=
 if b.length < 3 then .error 10 else if (b.drop 3).length < (numL (b.take 3)).toNat then .error 10 else .ok ((b.drop 3).take (numL (b.take 3)).toNat, (b.drop 3).drop (numL (b.take 3)).toNat)
def dList (g : List Int → Except Int (S43 × List Int)) : Nat → List Int → Except Int (List S43 × List Int)
 | 0, b => .ok ([], b)
 | m + 1, b => (g b).bind fun x => (dList g m x.2).bind fun y => .ok (x.1 :: y.1, y.2)
def dStep (g : Option (List Int → Except Int (S43 × List Int))) : List Int → Except Int (S43 × List Int)
 | [] => .error 10
 | k :: b => if k = 1 then (dNum b).bind fun x => .ok (⟨1, x.1, [], []⟩, x.2) else if k = 2 then (dRaw b).bind fun x => .ok (⟨2, 0, x.1, []⟩, x.2)
   else if k = 3 then (if b.length < 2 then .error 10 else if numL (b.take 2) > 4096 then .error 11 else match g with
    | none => .error 11
    | some g => (dList g (numL (b.take 2)).toNat (b.drop 2)).bind fun x => .ok (⟨3, 0, [], x.1⟩, x.2))
   else .error 11
def dV : Nat → List Int → Except Int (S43 × List Int)
 | 0 => dStep none
 | d + 1 => dStep (some (dV d))
theorem pure2 (f1 : Int) (f2 : List Int) (f3 : List S43) : pureS ⟨2, f1, f2, f3⟩ = (decide (f1 = 0) && f3.isEmpty) := by simp [pureS]
theorem pure3 (f1 : Int) (f2 : List Int) (f3 : List S43) : pureS ⟨3, f1, f2, f3⟩ = (decide (f1 = 0) && f2.isEmpty && decide (f3.length ≤ 4096) && pureL f3) := by simp [pureS]
theorem bytes2 (f1 : Int) (f2 : List Int) (f3 : List S43) : bytesS ⟨2, f1, f2, f3⟩ = [2] ++ (lowL f2.length 3).reverse ++ f2 := by simp [bytesS]
theorem bytes3 (f1 : Int) (f2 : List Int) (f3 : List S43) : bytesS ⟨3, f1, f2, f3⟩ = [3] ++ (lowL f3.length 2).reverse ++ bytesL f3 := by simp [bytesS]
theorem deep3 (f1 : Int) (f2 : List Int) (f3 : List S43) : deepS ⟨3, f1, f2, f3⟩ = 1 + deepL f3 := by simp [deepS]
theorem ex_bind {α β : Type} {x : Except Int α} {f : α → Except Int β} {r : β} (h : x.bind f = .ok r) : ∃ a, x = .ok a ∧ f a = .ok r := by
 cases x with
 | error e => cases h
 | ok a => exact ⟨a, rfl, h⟩
theorem byteOk_take {b : List Int} (h : ByteOk b) (n : Nat) : ByteOk (b.take n) := fun x hx => h x (List.mem_of_mem_take hx)
theorem byteOk_drop {b : List Int} (h : ByteOk b) (n : Nat) : ByteOk (b.drop n) := fun x hx => h x (List.mem_of_mem_drop hx)
theorem byteOk_right {p b : List Int} (h : ByteOk (p ++ b)) : ByteOk b := fun x hx => h x (List.mem_append_right _ hx)
theorem numL_nonneg {b : List Int} (h : ByteOk b) : 0 ≤ numL b := numA_ge b 0 (Int.le_refl _) h
theorem digs_zero : ∀ m, digs m 0 = 0
 | 0 => rfl
 | m + 1 => by simp [digs]
theorem numL_pos : ∀ (t : List Int), ByteOk t → t ≠ [] → rd t 0 ≠ 0 → 0 < numL t := by
 intro t ht hne h0
 cases t with
 | nil => exact absurd rfl hne
 | cons c t =>
  have hc := ht c (by simp)
  have e : rd (c :: t) 0 = c := rfl
  rw [e] at h0
  have := numA_ge t (256 * 0 + c) (by omega) (fun x hx => ht x (by simp [hx]))
  show 0 < numA (256 * 0 + c) t
  omega
theorem digs_of (r : List Int) : ∀ m, ByteOk r → r.length ≤ m → rd r.reverse 0 ≠ 0 → digs m (numL r.reverse) = r.length := by
 induction r with
 | nil => intro m _ _ _; exact digs_zero m
 | cons c t ih =>
  intro m hb hm h0
  have hc := hb c (by simp)
  have ht : ByteOk t := fun x hx => hb x (by simp [hx])
  obtain ⟨m, rfl⟩ : ∃ q, m = q + 1 := ⟨m - 1, by simp at hm; omega⟩
  have hm' : t.length ≤ m := by simp at hm; omega
  rw [List.reverse_cons] at h0 ⊢
  have e : numL (t.reverse ++ [c]) = 256 * numL t.reverse + c := numA_snoc _ _ _
  rw [e]
  by_cases hz : t = []
  ·subst hz
   have h0' : c ≠ 0 := h0
   have e0 : numL ([] : List Int).reverse = 0 := rfl
   rw [e0]
   simp only [digs]
   rw [if_pos (by omega), show (256 * 0 + c) / 256 = 0 by omega, digs_zero]
   rfl
  ·have hr0 : rd (t.reverse ++ [c]) 0 = rd t.reverse 0 := by
    have : t.reverse ≠ [] := by simpa using hz
    cases hh : t.reverse with
    | nil => exact absurd hh this
    | cons y ys => rfl
   rw [hr0] at h0
   have hp := numL_pos t.reverse (byteOk_reverse ht) (by simpa using hz) h0
   simp only [digs]
   rw [if_pos (by omega), show (256 * numL t.reverse + c) / 256 = numL t.reverse by omega, ih m ht hm' h0]
   rfl
theorem dNum_ok {b : List Int} (hb : ByteOk b) {n : Int} {r : List Int} (h : dNum b = .ok (n, r)) : 1 :: b = numB n ++ r ∧ 0 ≤ n ∧ n ≤ 4611686018427387904 := by
 cases b with
 | nil => cases h
 | cons s b =>
  have hs := hb s (by simp)
  have hb' : ByteOk b := fun x hx => hb x (by simp [hx])
  simp only [dNum] at h
  split at h
  ·cases h
  split at h
  ·cases h
  rename_i h8 hlen
  split at h
  ·rename_i h0
   cases h
   subst h0
   refine ⟨?_, by omega, by omega⟩
   simp [numB, digs_zero, lowL]
  rename_i h0
  split at h
  ·cases h
  split at h
  ·cases h
  rename_i htop hhd
  cases h
  have ho := byteOk_take hb' s.toNat
  have hl : (b.take s.toNat).length = s.toNat := by rw [List.length_take]; omega
  have e1 := digs_of (b.take s.toNat).reverse 8 (byteOk_reverse ho) (by rw [List.length_reverse, hl]; omega) (by rw [List.reverse_reverse]; exact hhd)
  have e2 := low_num (b.take s.toNat).reverse (byteOk_reverse ho)
  rw [List.reverse_reverse, List.length_reverse, hl] at e1 e2
  refine ⟨?_, numL_nonneg ho, by omega⟩
  unfold numB
  rw [e1, e2, List.reverse_reverse]
  simp only [List.cons_append, List.take_append_drop]
  rw [show ((s.toNat : Nat) : Int) = s by omega]
theorem dRaw_ok {b : List Int} (hb : ByteOk b) {o r : List Int} (h : dRaw b = .ok (o, r)) : 2 :: b = [2] ++ (lowL (o.length : Int) 3).reverse ++ o ++ r := by
 unfold dRaw at h
 split at h
 ·cases h
 split at h
 ·cases h
 rename_i h3 hlen
 cases h
 have ho := byteOk_take hb 3
 have hn := numL_nonneg ho
 have hl : ((b.drop 3).take (numL (b.take 3)).toNat).length = (numL (b.take 3)).toNat := by rw [List.length_take]; omega
 have e2 := low_num (b.take 3).reverse (byteOk_reverse ho)
 rw [List.reverse_reverse, List.length_reverse, show (b.take 3).length = 3 by rw [List.length_take]; omega] at e2
 rw [hl, show (((numL (b.take 3)).toNat : Nat) : Int) = numL (b.take 3) by omega, e2, List.reverse_reverse]
 simp only [List.append_assoc, List.take_append_drop, List.singleton_append, List.cons_append, List.nil_append]
theorem dList_ok {g : List Int → Except Int (S43 × List Int)} {P : S43 → Prop} (hg : ∀ b v r, ByteOk b → g b = .ok (v, r) → b = bytesS v ++ r ∧ P v) :
  ∀ (m : Nat) (b : List Int) (l : List S43) (r : List Int), ByteOk b → dList g m b = .ok (l, r) → b = bytesL l ++ r ∧ l.length = m ∧ ∀ x ∈ l, P x
 | 0, b, l, r, _, h => by
  cases h
  exact ⟨rfl, rfl, by simp⟩
 | m + 1, b, l, r, hb, h => by
  obtain ⟨⟨v, b1⟩, h1, h⟩ := ex_bind h
  obtain ⟨⟨t, b2⟩, h2, h⟩ := ex_bind h
  cases h
  obtain ⟨rfl, p1⟩ := hg _ _ _ hb h1
  obtain ⟨e2, l2, p2⟩ := dList_ok hg m b1 t b2 (byteOk_right hb) h2
  refine ⟨?_, by simp [l2], fun x hx => ?_⟩
  ·rw [e2]; simp [bytesL]
  ·rcases List.mem_cons.1 hx with rfl | hx
   ·exact p1
   ·exact p2 x hx
def pureDeep (d : Nat) (v : S43) : Prop := pureS v = true ∧ deepS v ≤ d
theorem deepL_le (l : List S43) (d : Nat) : deepL l ≤ d ↔ ∀ x ∈ l, deepS x ≤ d := by
 induction l with
 | nil => simp [deepL]
 | cons x t ih => simp only [deepL, List.forall_mem_cons, ← ih]; omega
theorem dStep_ok (d : Nat) (g : Option (List Int → Except Int (S43 × List Int))) (hg : ∀ f, g = some f → 1 ≤ d ∧ ∀ b v r, ByteOk b → f b = .ok (v, r) → b = bytesS v ++ r ∧ pureDeep (d - 1) v)
  (b : List Int) (v : S43) (r : List Int) (hb : ByteOk b) (h : dStep g b = .ok (v, r)) : b = bytesS v ++ r ∧ pureDeep d v := by
 cases b with
 | nil => cases h
 | cons k b =>
  have hb' : ByteOk b := fun x hx => hb x (by simp [hx])
  simp only [dStep] at h
  split at h
  ·rename_i hk
   subst hk
   obtain ⟨⟨n, b1⟩, h1, h⟩ := ex_bind h
   cases h
   obtain ⟨e, h0, ht⟩ := dNum_ok hb' h1
   refine ⟨by rw [e]; simp [bytesS], ?_, by simp [deepS]⟩
   simp [pureS, h0, ht]
  split at h
  ·rename_i hk
   subst hk
   obtain ⟨⟨o, b1⟩, h1, h⟩ := ex_bind h
   cases h
   have e := dRaw_ok hb' h1
   refine ⟨by rw [e]; simp [bytesS], ?_, by simp [deepS]⟩
   simp [pureS]
  split at h
  ·rename_i hk
   subst hk
   split at h
   ·cases h
   split at h
   ·cases h
   rename_i h2 hm
   cases g with
   | none => cases h
   | some f =>
    simp only at h
    obtain ⟨⟨l, b1⟩, h1, h⟩ := ex_bind h
    cases h
    obtain ⟨hd, hf⟩ := hg f rfl
    obtain ⟨e, hl, hp⟩ := dList_ok hf _ _ _ _ (byteOk_drop hb' 2) h1
    have ho := byteOk_take hb' 2
    have hn := numL_nonneg ho
    have e2 := low_num (b.take 2).reverse (byteOk_reverse ho)
    rw [List.reverse_reverse, List.length_reverse, show (b.take 2).length = 2 by rw [List.length_take]; omega] at e2
    refine ⟨?_, ?_, ?_⟩
    ·rw [bytes3, hl, show (((numL (b.take 2)).toNat : Nat) : Int) = numL (b.take 2) by omega, e2, List.reverse_reverse]
     simp only [List.append_assoc, List.singleton_append, List.cons_append, List.nil_append, List.cons.injEq, true_and]
     rw [← e, List.take_append_drop]
    ·rw [pure3]
     simp only [List.isEmpty_nil, Bool.and_true, decide_true, Bool.true_and, Bool.and_eq_true, decide_eq_true_eq]
     exact ⟨by omega, (pureL_all _).2 (fun x hx => (hp x hx).1)⟩
    ·rw [deep3]
     have := (deepL_le l (d - 1)).2 (fun x hx => (hp x hx).2)
     show 1 + deepL l ≤ d
     omega
  ·cases h
theorem dV_ok : ∀ (d : Nat) (b : List Int) (v : S43) (r : List Int), ByteOk b → dV d b = .ok (v, r) → b = bytesS v ++ r ∧ pureDeep d v
 | 0, b, v, r, hb, h => dStep_ok 0 none (fun f hf => by cases hf) b v r hb h
 | d + 1, b, v, r, hb, h => dStep_ok (d + 1) (some (dV d)) (fun f hf => by cases hf; exact ⟨by omega, dV_ok d⟩) b v r hb h
theorem cnt_bytes (v : S43) : pureS v = true → cntS v ≤ (bytesS v).length ∧ ∀ m, (bytesS v).length ≤ m → m ≤ 100000 → okS v = true := by
 refine S_ind (P := fun v => pureS v = true → cntS v ≤ (bytesS v).length ∧ ∀ m, (bytesS v).length ≤ m → m ≤ 100000 → okS v = true) (fun v ih hp => ?_) v
 have hl : ∀ l : List S43, (∀ x ∈ l, cntS x ≤ (bytesS x).length ∧ ∀ m, (bytesS x).length ≤ m → m ≤ 100000 → okS x = true) → cntL l ≤ (bytesL l).length ∧ ∀ m, (bytesL l).length ≤ m → m ≤ 100000 → okL l = true := by
  intro l
  induction l with
  | nil => intro _; simp [bytesL, cntL, okL]
  | cons x t iht =>
   intro hx
   have h1 := hx x (by simp)
   have h2 := iht (fun y hy => hx y (by simp [hy]))
   simp only [bytesL, cntL, okL, List.length_append, Bool.and_eq_true]
   exact ⟨by omega, fun m hm hm' => ⟨h1.2 m (by omega) hm', h2.2 m (by omega) hm'⟩⟩
 obtain ⟨f0, f1, f2, f3⟩ := v
 simp only at ih
 by_cases h1 : f0 = 1
 ·subst h1
  simp only [pureS, if_true, Bool.and_eq_true, decide_eq_true_eq, List.isEmpty_iff] at hp
  obtain ⟨⟨⟨p0, p1⟩, rfl⟩, rfl⟩ := hp
  simp [bytesS, numB, cntS, cntL, okS, okL, lowL_length] <;> omega
 by_cases h2 : f0 = 2
 ·subst h2
  rw [pure2] at hp
  simp only [Bool.and_eq_true, decide_eq_true_eq, List.isEmpty_iff] at hp
  obtain ⟨rfl, rfl⟩ := hp
  simp [bytesS, cntS, cntL, okS, okL, lowL_length]
  try omega
 by_cases h3 : f0 = 3
 ·subst h3
  rw [pure3] at hp
  simp only [Bool.and_eq_true, decide_eq_true_eq, List.isEmpty_iff] at hp
  obtain ⟨⟨⟨rfl, rfl⟩, p3⟩, p4⟩ := hp
  have := hl f3 (fun x hx => ih x hx ((pureL_all _).1 p4 x hx))
  rw [bytes3]
  simp only [cntS, okS, List.length_append, List.length_reverse, lowL_length, List.length_nil, Bool.and_eq_true, List.length_singleton]
  exact ⟨by omega, fun m h1 h2 => ⟨by simp, this.2 m (by omega) h2⟩⟩
 ·simp only [pureS] at hp
  rw [if_neg h1, if_neg h2, if_neg h3] at hp
  cases hp
theorem small_of (v : S43) (hp : pureS v = true) (hl : (bytesS v).length ≤ 100000) : Small v := ⟨by have := (cnt_bytes v hp).1; omega, (cnt_bytes v hp).2 _ (Nat.le_refl _) hl⟩
structure Fit {α : Type} (x : Except Int (α × List Int)) (r : α × List Int × Int) : Prop where
 ok : ∀ v b, x = .ok (v, b) → r = (v, b, 0)
 err : ∀ e, x = .error e → r.2.2 = e ∧ e ≠ 0
theorem Fit.mkOk {α : Type} (v : α) (b : List Int) : Fit (.ok (v, b)) (v, b, 0) := ⟨fun _ _ h => by cases h; rfl, fun _ h => by cases h⟩
theorem Fit.mkErr {α : Type} (e : Int) (he : e ≠ 0) (v : α) (b : List Int) : Fit (.error e) (v, b, e) := ⟨fun _ _ h => (by cases h), fun _ h => by cases h; exact ⟨rfl, he⟩⟩
theorem takeP_0 (b : List Int) (n : Nat) : takeP b 0 (n : Int) = some (if b.length < n then ([], b, 10) else (b.take n, b.drop n, 0)) := by
 unfold takeP
 rw [if_pos rfl]
 by_cases h : b.length < n
 ·rw [if_pos (by omega), if_pos h]
 ·rw [if_neg (by omega), if_pos (by omega), if_neg h, Int.toNat_natCast]
theorem takeP_e (b : List Int) (e n : Int) (he : e ≠ 0) : takeP b e n = some ([], b, e) := by
 unfold takeP
 rw [if_neg he]
theorem get_few (o : List Int) (ho : ByteOk o) (h0 : 0 < o.length) (h3 : o.length ≤ 3) : getS o = (numL o, 0) := by
 have hn := num_lt o.reverse (byteOk_reverse ho)
 rw [List.reverse_reverse, List.length_reverse] at hn
 have : numL o ≤ 4611686018427387904 := by
  obtain h | h | h : o.length = 1 ∨ o.length = 2 ∨ o.length = 3 := by omega
  ·rw [h, show (2 : Int) ^ (8 * 1) = 256 from rfl] at hn; omega
  ·rw [h, show (2 : Int) ^ (8 * 2) = 65536 from rfl] at hn; omega
  ·rw [h, show (2 : Int) ^ (8 * 3) = 16777216 from rfl] at hn; omega
 unfold getS
 rw [if_neg (by omega), if_neg (by omega), if_neg (by omega)]
theorem count_ev (b : List Int) (hb : ByteOk b) (s : Nat) (h1 : 1 ≤ s) (h3 : s ≤ 3) : Ev (fun k => countP k b 0 (s : Int)) (if b.length < s then (0, b, 10) else (numL (b.take s), b.drop s, 0)) := by
 unfold countP
 rw [takeP_0]
 by_cases h : b.length < s
 ·simp only [if_pos h, Option.bind_some]
  refine Ev.bind (Ev.fin 10 (fun k hk => word_get [] (by simp [ByteOk]) k hk)) ?_
  exact Ev.now _
 ·simp only [if_neg h, Option.bind_some]
  have ho := byteOk_take hb s
  have hl : (b.take s).length = s := by rw [List.length_take]; omega
  refine Ev.bind (Ev.fin 10 (fun k hk => word_get _ ho k hk)) ?_
  rw [get_few _ ho (by omega) (by omega)]
  exact Ev.now _
theorem number_ev (b : List Int) (hb : ByteOk b) : ∃ r, Ev (fun k => numberP k b 0) r ∧ Fit (dNum b) r := by
 unfold numberP
 have hc := count_ev b hb 1 (by omega) (by omega)
 cases b with
 | nil =>
  rw [if_pos (by simp)] at hc
  refine ⟨(0, [], 10), Ev.bind hc ?_, Fit.mkErr 10 (by decide) _ _⟩
  simp only [if_neg (show ¬ (0 : Int) > 8 by decide), takeP_e [] 10 0 (by decide)]
  exact Ev.now _
 | cons s b =>
  have hs := hb s (by simp)
  have hb' : ByteOk b := fun x hx => hb x (by simp [hx])
  rw [if_neg (by simp)] at hc
  have e1 : numL ((s :: b).take 1) = s := by show 256 * 0 + s = s; omega
  rw [e1, show (s :: b).drop 1 = b from rfl] at hc
  by_cases h8 : s > 8
  ·refine ⟨(0, b, 11), Ev.bind hc ?_, ?_⟩
   ·simp only [if_pos h8]
    exact Ev.now _
   ·simp only [dNum, if_pos h8]
    exact Fit.mkErr 11 (by decide) _ _
  ·obtain ⟨n, rfl⟩ := Int.eq_ofNat_of_zero_le hs.1
   simp only [dNum, if_neg h8, Int.toNat_natCast]
   by_cases hl : b.length < n
   ·refine ⟨(0, b, 10), Ev.bind hc ?_, ?_⟩
    ·simp only [if_neg h8]
     rw [takeP_0, if_pos hl]
     exact Ev.now _
    ·rw [if_pos hl]
     exact Fit.mkErr 10 (by decide) _ _
   ·have ho := byteOk_take hb' n
    have hl' : (b.take n).length = n := by rw [List.length_take]; omega
    rw [if_neg hl]
    by_cases h0 : n = 0
    ·subst h0
     refine ⟨(0, b, 0), Ev.bind hc ?_, ?_⟩
     ·simp only [if_neg h8]
      rw [takeP_0, if_neg hl]
      exact Ev.now _
     ·rw [if_pos (by omega)]
      exact Fit.mkOk _ _
    ·rw [if_neg (by omega)]
     have hg : getS (b.take n) = if numL (b.take n) > 4611686018427387904 then (0, 11) else (numL (b.take n), 0) := by
      unfold getS
      rw [if_neg (by omega), if_neg (by omega)]
     by_cases ht : numL (b.take n) > 4611686018427387904
     ·refine ⟨(0, b.drop n, 11), Ev.bind hc ?_, ?_⟩
      ·simp only [if_neg h8]
       rw [takeP_0, if_neg hl]
       simp only [Option.bind_some, hl', if_neg h0]
       refine Ev.bind (Ev.fin 10 (fun k hk => word_get _ ho k hk)) ?_
       rw [hg, if_pos ht]
       exact Ev.now _
      ·rw [if_pos ht]
       exact Fit.mkErr 11 (by decide) _ _
     ·rw [if_neg ht]
      by_cases hz : rd (b.take n) 0 = 0
      ·refine ⟨(numL (b.take n), b.drop n, 11), Ev.bind hc ?_, ?_⟩
       ·simp only [if_neg h8]
        rw [takeP_0, if_neg hl]
        simp only [Option.bind_some, hl', if_neg h0]
        refine Ev.bind (Ev.fin 10 (fun k hk => word_get _ ho k hk)) ?_
        rw [hg, if_neg ht]
        simp only [if_pos hz, if_true]
        exact Ev.now _
       ·rw [if_pos hz]
        exact Fit.mkErr 11 (by decide) _ _
      ·refine ⟨(numL (b.take n), b.drop n, 0), Ev.bind hc ?_, ?_⟩
       ·simp only [if_neg h8]
        rw [takeP_0, if_neg hl]
        simp only [Option.bind_some, hl', if_neg h0]
        refine Ev.bind (Ev.fin 10 (fun k hk => word_get _ ho k hk)) ?_
        rw [hg, if_neg ht]
        simp only [if_neg hz, if_true]
        exact Ev.now _
       ·rw [if_neg hz]
        exact Fit.mkOk _ _
theorem elems_e (g : Nat → List Int → Int → Option (S43 × List Int × Int)) (m : Nat) (acc : List S43) (b : List Int) (e : Int) (he : e ≠ 0) : Ev (fun k => elemsP (g k) m acc b e) (acc, b, e) := by
 cases m with
 | zero => exact Ev.now _
 | succ m => simp only [elemsP, if_neg he]; exact Ev.now _
theorem elems_ev (g : Nat → List Int → Int → Option (S43 × List Int × Int)) (f : List Int → Except Int (S43 × List Int)) (L : Nat)
  (hg : ∀ b, ByteOk b → b.length ≤ L → ∃ r, Ev (fun k => g k b 0) r ∧ Fit (f b) r) (hf : ∀ b v r, ByteOk b → f b = .ok (v, r) → ∃ p, b = p ++ r) :
  ∀ (m : Nat) (b : List Int) (acc : List S43), ByteOk b → b.length ≤ L → acc.length + m ≤ 5000 → ∃ r, Ev (fun k => elemsP (g k) m acc b 0) (acc ++ r.1, r.2.1, r.2.2) ∧ Fit (dList f m b) r := by
 intro m
 induction m with
 | zero => intro b acc _ _ _; exact ⟨([], b, 0), by simp only [elemsP, List.append_nil]; exact Ev.now _, Fit.mkOk _ _⟩
 | succ m ih =>
  intro b acc hb hl hm
  obtain ⟨⟨v, b1, e1⟩, hv, fv⟩ := hg b hb hl
  simp only [elemsP, if_true]
  cases hx : f b with
  | error e =>
   obtain ⟨h1, h2⟩ := fv.err e hx
   simp only at h1
   subst h1
   refine ⟨([v], b1, e1), Ev.bind hv ?_, ?_⟩
   ·simp only [if_pos (show acc.length < 1000000 by omega)]
    exact elems_e g m _ _ _ h2
   ·simp only [dList, hx, Except.bind]
    exact Fit.mkErr _ h2 _ _
  | ok y =>
   obtain ⟨y, c⟩ := y
   have hz := fv.ok _ _ hx
   simp only [Prod.mk.injEq] at hz
   obtain ⟨rfl, rfl, rfl⟩ := hz
   obtain ⟨p, rfl⟩ := hf _ _ _ hb hx
   obtain ⟨⟨l, b2, e2⟩, h2, f2⟩ := ih b1 (acc ++ [v]) (byteOk_right hb) (by simp at hl; omega) (by simp; omega)
   refine ⟨(v :: l, b2, e2), Ev.bind hv ?_, ?_⟩
   ·simp only [if_pos (show acc.length < 1000000 by omega)]
    rw [show acc ++ v :: l = acc ++ [v] ++ l by simp]
    exact h2
   ·simp only [dList, hx, Except.bind]
    cases hd : dList f m b1 with
    | error e =>
     obtain ⟨h3, h4⟩ := f2.err e hd
     simp only at h3
     subst h3
     exact Fit.mkErr _ h4 _ _
    | ok z =>
     obtain ⟨z, c2⟩ := z
     cases f2.ok _ _ hd
     exact Fit.mkOk _ _
theorem valueP_nil (k : Nat) (d : Int) : valueP (k + 1) [] 0 d = some (⟨0, 0, [], []⟩, [], 10) := by
 rw [valueP, show takeP [] 0 1 = some ([], [], 10) from rfl]
 rfl
theorem valueP_cons (k : Nat) (c : Int) (b : List Int) (d : Int) (h0 : 0 ≤ c) (h1 : c ≤ 255) : valueP (k + 1) (c :: b) 0 d =
  if c = 1 then (numberP k b 0).bind fun r => some (⟨1, r.1, [], []⟩, r.2.1, r.2.2)
  else if c = 2 then (countP k b 0 3).bind fun c => (takeP c.2.1 c.2.2 c.1).bind fun u => if u.1.length ≤ 140737488355328 then some (⟨2, 0, u.1, []⟩, u.2.1, u.2.2) else none
  else if c = 3 then (countP k b 0 2).bind fun c => (elemsP (fun b e => valueP k b e (wrap64 (d - 1))) c.1.toNat [] c.2.1 (if c.1 > 4096 then failP c.2.2 else if d = 0 then failP c.2.2 else c.2.2)).bind fun r => some (⟨3, 0, [], r.1⟩, r.2.1, r.2.2)
  else some (⟨0, 0, [], []⟩, b, 11) := by
 rw [valueP, show takeP (c :: b) 0 1 = some ([c], b, 0) by have := takeP_0 (c :: b) 1; rw [if_neg (by simp)] at this; exact this]
 simp only [Option.bind_some, if_true]
 rw [show rd [c] 0 = c from rfl, w64i (by omega) (by omega)]
 rfl
theorem value_step (d : Nat) (hd : d ≤ 16) (g : Option (List Int → Except Int (S43 × List Int))) (hn : d = 0 → g = none)
  (hs : ∀ q, d = q + 1 → ∃ f, g = some f ∧ (∀ b, ByteOk b → b.length ≤ 2000000 → ∃ r, Ev (fun k => valueP k b 0 (q : Int)) r ∧ Fit (f b) r) ∧ (∀ b v r, ByteOk b → f b = .ok (v, r) → ∃ p, b = p ++ r)) :
  ∀ b, ByteOk b → b.length ≤ 2000000 → ∃ r, Ev (fun k => valueP k b 0 (d : Int)) r ∧ Fit (dStep g b) r := by
 intro b hb hl
 cases b with
 | nil => exact ⟨_, Ev.some_ (fun k => valueP_nil k _), Fit.mkErr 10 (by decide) _ _⟩
 | cons c b =>
  have hc := hb c (by simp)
  have hb' : ByteOk b := fun x hx => hb x (by simp [hx])
  have hl' : b.length ≤ 2000000 := by simp at hl; omega
  simp only [dStep]
  by_cases h1 : c = 1
  ·subst h1
   obtain ⟨⟨n, b1, e1⟩, hv, fv⟩ := number_ev b hb'
   refine ⟨(⟨1, n, [], []⟩, b1, e1), Ev.step (f := fun k => (numberP k b 0).bind fun r => some (⟨1, r.1, [], []⟩, r.2.1, r.2.2)) (fun k => by rw [valueP_cons _ _ _ _ hc.1 hc.2, if_pos rfl]) (Ev.bind hv (Ev.now _)), ?_⟩
   rw [if_pos rfl]
   cases hx : dNum b with
   | error e => obtain ⟨h3, h4⟩ := fv.err e hx; simp only at h3; subst h3; exact Fit.mkErr _ h4 _ _
   | ok z => obtain ⟨z, c2⟩ := z; cases fv.ok _ _ hx; exact Fit.mkOk _ _
  rw [if_neg h1]
  by_cases h2 : c = 2
  ·subst h2
   have hce := count_ev b hb' 3 (by omega) (by omega)
   have st : ∀ r, Ev (fun k => (countP k b 0 3).bind fun c => (takeP c.2.1 c.2.2 c.1).bind fun u => if u.1.length ≤ 140737488355328 then some ((⟨2, 0, u.1, []⟩ : S43), u.2.1, u.2.2) else none) r → Ev (fun k => valueP k (2 :: b) 0 (d : Int)) r :=
    fun r h => Ev.step (fun k => by rw [valueP_cons _ _ _ _ hc.1 hc.2, if_neg h1, if_pos rfl]) h
   rw [if_pos rfl]
   unfold dRaw
   by_cases h3 : b.length < 3
   ·rw [if_pos h3] at hce ⊢
    refine ⟨(⟨2, 0, [], []⟩, b, 10), st _ (Ev.bind hce ?_), Fit.mkErr 10 (by decide) _ _⟩
    ·simp only [takeP_e b 10 0 (by decide)]
     exact Ev.now _
   ·rw [if_neg h3] at hce ⊢
    have hn0 := numL_nonneg (byteOk_take hb' 3)
    obtain ⟨n, en⟩ := Int.eq_ofNat_of_zero_le hn0
    rw [en] at hce ⊢
    rw [Int.toNat_natCast]
    by_cases h4 : (b.drop 3).length < n
    ·rw [if_pos h4]
     refine ⟨(⟨2, 0, [], []⟩, b.drop 3, 10), st _ (Ev.bind hce ?_), Fit.mkErr 10 (by decide) _ _⟩
     ·simp only []
      rw [takeP_0, if_pos h4]
      exact Ev.now _
    ·rw [if_neg h4]
     refine ⟨(⟨2, 0, (b.drop 3).take n, []⟩, (b.drop 3).drop n, 0), st _ (Ev.bind hce ?_), Fit.mkOk _ _⟩
     simp only []
     rw [takeP_0, if_neg h4]
     simp only [Option.bind_some]
     rw [if_pos (by simp only [List.length_take, List.length_drop]; omega)]
     exact Ev.now _
  rw [if_neg h2]
  by_cases h3 : c = 3
  ·subst h3
   have hce := count_ev b hb' 2 (by omega) (by omega)
   have st : ∀ r, Ev (fun k => (countP k b 0 2).bind fun c => (elemsP (fun b e => valueP k b e (wrap64 ((d : Int) - 1))) c.1.toNat [] c.2.1 (if c.1 > 4096 then failP c.2.2 else if (d : Int) = 0 then failP c.2.2 else c.2.2)).bind fun r => some ((⟨3, 0, [], r.1⟩ : S43), r.2.1, r.2.2)) r → Ev (fun k => valueP k (3 :: b) 0 (d : Int)) r :=
    fun r h => Ev.step (fun k => by rw [valueP_cons _ _ _ _ hc.1 hc.2, if_neg h1, if_neg h2, if_pos rfl]) h
   rw [if_pos rfl]
   by_cases h5 : b.length < 2
   ·rw [if_pos h5] at hce ⊢
    refine ⟨(⟨3, 0, [], []⟩, b, 10), st _ (Ev.bind hce ?_), Fit.mkErr 10 (by decide) _ _⟩
    ·have e10 : (if (0 : Int) > 4096 then failP 10 else if (d : Int) = 0 then failP 10 else 10) = 10 := by
      rw [if_neg (by decide), show failP 10 = 10 from rfl]
      split <;> rfl
     simp only [e10]
     exact Ev.now _
   ·rw [if_neg h5] at hce ⊢
    have hn0 := numL_nonneg (byteOk_take hb' 2)
    obtain ⟨n, en⟩ := Int.eq_ofNat_of_zero_le hn0
    rw [en] at hce ⊢
    rw [Int.toNat_natCast]
    by_cases h6 : (n : Int) > 4096
    ·rw [if_pos h6]
     refine ⟨(⟨3, 0, [], []⟩, b.drop 2, 11), st _ (Ev.bind hce ?_), Fit.mkErr 11 (by decide) _ _⟩
     ·simp only [if_pos h6]
      exact Ev.bind (elems_e (fun k b e => valueP k b e (wrap64 ((d : Int) - 1))) _ _ _ _ (by decide)) (Ev.now _)
    ·rw [if_neg h6]
     by_cases hd0 : d = 0
     ·rw [hn hd0]
      refine ⟨(⟨3, 0, [], []⟩, b.drop 2, 11), st _ (Ev.bind hce ?_), Fit.mkErr 11 (by decide) _ _⟩
      ·simp only [if_neg h6, if_pos (show (d : Int) = 0 by omega)]
       exact Ev.bind (elems_e (fun k b e => valueP k b e (wrap64 ((d : Int) - 1))) _ _ _ _ (by decide)) (Ev.now _)
     ·obtain ⟨q, rfl⟩ : ∃ q, d = q + 1 := ⟨d - 1, by omega⟩
      obtain ⟨f, rfl, hv, hsf⟩ := hs q rfl
      have ew : wrap64 (((q + 1 : Nat) : Int) - 1) = (q : Int) := by rw [w64i (by omega) (by omega)]; omega
      obtain ⟨⟨l, b2, e2⟩, h7, f7⟩ := elems_ev (fun k b e => valueP k b e (q : Int)) f 2000000 hv hsf n (b.drop 2) [] (byteOk_drop hb' 2) (by rw [List.length_drop]; omega) (by simp; omega)
      refine ⟨(⟨3, 0, [], l⟩, b2, e2), st _ (Ev.bind hce ?_), ?_⟩
      ·simp only [if_neg h6, if_neg (show ¬ ((q + 1 : Nat) : Int) = 0 by omega), ew, Int.toNat_natCast]
       exact Ev.bind h7 (Ev.now _)
      ·simp only []
       cases hx : dList f n (b.drop 2) with
       | error e => obtain ⟨h3, h4⟩ := f7.err e hx; simp only at h3; subst h3; exact Fit.mkErr _ h4 _ _
       | ok z => obtain ⟨z, c2⟩ := z; cases f7.ok _ _ hx; exact Fit.mkOk _ _
  ·rw [if_neg h3]
   exact ⟨_, Ev.some_ (fun k => by rw [valueP_cons _ _ _ _ hc.1 hc.2, if_neg h1, if_neg h2, if_neg h3]), Fit.mkErr 11 (by decide) _ _⟩
theorem value_ev : ∀ (d : Nat), d ≤ 16 → ∀ b, ByteOk b → b.length ≤ 2000000 → ∃ r, Ev (fun k => valueP k b 0 (d : Int)) r ∧ Fit (dV d b) r
 | 0, hd => value_step 0 hd none (fun _ => rfl) (fun q h => by omega)
 | d + 1, hd => value_step (d + 1) hd (some (dV d)) (fun h => by omega) (fun q h => by
   obtain rfl : q = d := by omega
   exact ⟨dV q, rfl, value_ev q (by omega), fun b v r hb h => ⟨_, (dV_ok q b v r hb h).1⟩⟩)
def decT (b : List Int) : S43 × Int :=
 if b.length > 1048576 then (⟨0, 0, [], []⟩, 3) else match dV 16 b with
  | .error e => (⟨0, 0, [], []⟩, e)
  | .ok (v, []) => (v, 0)
  | .ok (_, _ :: _) => (⟨0, 0, [], []⟩, 12)
theorem decode_ev (b : List Int) (hb : ByteOk b) : Ev (fun k => codec_Decode.f k b) ((decT b).1.f0, (decT b).1.f1, (decT b).1.f2, (decT b).1.f3, (decT b).2) := by
 unfold codec_Decode.f decT
 by_cases hl : b.length > 1048576
 ·rw [if_pos hl]
  simp only [if_neg (show ¬ b.length ≤ 1048576 by omega)]
  exact Ev.now _
 ·rw [if_neg hl]
  simp only [if_pos (show b.length ≤ 1048576 by omega)]
  obtain ⟨⟨v, b1, e1⟩, hv, fv⟩ := value_ev 16 (by omega) b hb (by omega)
  refine Ev.bind hv ?_
  cases hx : dV 16 b with
  | error e =>
   obtain ⟨h3, h4⟩ := fv.err e hx
   simp only at h3
   subst h3
   have : endP b1 e1 = e1 := if_neg h4
   simp only [this, if_neg h4]
   exact Ev.now _
  | ok z =>
   obtain ⟨z, c⟩ := z
   cases fv.ok _ _ hx
   cases b1 with
   | nil => exact Ev.now _
   | cons y t => exact Ev.now _
theorem decT_ok (b : List Int) (hb : ByteOk b) (h : (decT b).2 = 0) : b.length ≤ 1048576 ∧ b = bytesS (decT b).1 ∧ pureS (decT b).1 = true ∧ deepS (decT b).1 ≤ 16 := by
 unfold decT at h ⊢
 by_cases hl : b.length > 1048576
 ·rw [if_pos hl] at h; cases h
 ·rw [if_neg hl] at h ⊢
  cases hx : dV 16 b with
  | error e =>
   rw [hx] at h
   obtain ⟨⟨v, b1, e1⟩, hv, fv⟩ := value_ev 16 (by omega) b hb (by omega)
   exact absurd h (fv.err e hx).2
  | ok z =>
   obtain ⟨z, c⟩ := z
   rw [hx] at h
   cases c with
   | nil =>
    have := dV_ok 16 b z [] hb hx
    rw [List.append_nil] at this
    exact ⟨by omega, this.1, this.2.1, this.2.2⟩
   | cons y t => cases h
def okc (c : Int) : Bool := (decide (97 ≤ c) && decide (c ≤ 122)) || (decide (48 ≤ c) && decide (c ≤ 57))
def allC (s : ByteArray) (i : Nat) : Bool := (List.range' i (s.size - i)).all fun (j : Nat) => okc (bt s (j : Int))
def nameB (s : ByteArray) : Bool := allC s 0 && decide (1 ≤ s.size) && decide (s.size ≤ 12)
theorem allC_end (s : ByteArray) : allC s s.size = true := by simp [allC]
theorem allC_step (s : ByteArray) (i : Nat) (h : i < s.size) : allC s i = (okc (bt s (i : Int)) && allC s (i + 1)) := by
 unfold allC
 rw [show s.size - i = (s.size - (i + 1)) + 1 by omega, List.range'_succ, List.all_cons]
theorem tree_l0 (s : ByteArray) (hs : s.size ≤ 4611686018427387904) : ∀ (d i : Nat), i + d = s.size →
  Ev (fun k => tree_Name.l0 k s (s.size : Int) (i : Int)) (allC s i && decide (1 ≤ s.size) && decide (s.size ≤ 12)) := by
 intro d
 induction d with
 | zero =>
  intro i h
  have e : i = s.size := by omega
  subst e
  refine Ev.some_ (fun k => ?_)
  rw [tree_Name.l0, if_neg (by omega), allC_end]
  by_cases h1 : 1 ≤ s.size
  ·rw [if_pos (by omega), decide_eq_true h1]
   congr 1
   simp
   omega
  ·rw [if_neg (by omega), decide_eq_false h1]
   simp
 | succ d ih =>
  intro i h
  rw [allC_step s i (by omega)]
  have hn := ih (i + 1) (by omega)
  have a1 : (i : Int) < (s.size : Int) := by omega
  have a2 : (0 : Int) ≤ (i : Int) := by omega
  have nx := ix_next i (by omega)
  generalize hc : bt s (i : Int) = c
  cases ho : okc c with
  | false =>
   refine Ev.some_ (fun k => ?_)
   rw [tree_Name.l0, if_pos a1, if_pos a2, if_pos a1, hc]
   simp only [okc, Bool.or_eq_false_iff, Bool.and_eq_false_iff, decide_eq_false_iff_not] at ho
   by_cases q1 : c < 97
   ·rw [if_pos q1]
    by_cases q2 : c < 48
    ·rw [if_pos q2]; rfl
    ·rw [if_neg q2, if_pos (by omega)]; rfl
   ·rw [if_neg q1, if_pos (by omega), if_neg (by omega), if_pos (by omega)]; rfl
  | true =>
   refine Ev.step (f := fun k => tree_Name.l0 k s (s.size : Int) ((i + 1 : Nat) : Int)) (fun k => ?_) (by simpa using hn)
   rw [tree_Name.l0, if_pos a1, if_pos a2, if_pos a1, hc, nx]
   simp only [okc, Bool.or_eq_true, Bool.and_eq_true, decide_eq_true_eq] at ho
   by_cases q1 : c < 97
   ·rw [if_pos q1, if_neg (by omega), if_neg (by omega)]
   ·rw [if_neg q1, if_neg (by omega)]
theorem tree_ev (s : ByteArray) (hs : s.size ≤ 4611686018427387904) : Ev (fun k => tree_Name.f k s) (nameB s) := by
 have h := tree_l0 s hs s.size 0 (by omega)
 exact h
theorem rname_l0 (s : ByteArray) (hs : s.size ≤ 4611686018427387904) : ∀ (d i : Nat), i + d = s.size →
  Ev (fun k => bastilleref25_Name.l0 k s (i : Int)) (allC s i) := by
 intro d
 induction d with
 | zero =>
  intro i h
  have e : i = s.size := by omega
  subst e
  refine Ev.some_ (fun k => ?_)
  rw [bastilleref25_Name.l0, if_neg (by omega), allC_end]
 | succ d ih =>
  intro i h
  rw [allC_step s i (by omega)]
  have hn := ih (i + 1) (by omega)
  have a1 : (i : Int) < (s.size : Int) := by omega
  have a2 : (0 : Int) ≤ (i : Int) := by omega
  have nx := ix_next i (by omega)
  generalize hc : bt s (i : Int) = c
  cases ho : okc c with
  | false =>
   refine Ev.some_ (fun k => ?_)
   rw [bastilleref25_Name.l0, if_pos a1, if_pos a2, hc]
   simp only [okc, Bool.or_eq_false_iff, Bool.and_eq_false_iff, decide_eq_false_iff_not] at ho
   by_cases q1 : c ≥ 97
   ·rw [if_pos q1, if_pos (by omega), if_neg (by omega), if_neg (by omega)]; rfl
   ·rw [if_neg q1]
    by_cases q2 : c ≥ 48
    ·rw [if_pos q2, if_neg (by omega)]; rfl
    ·rw [if_neg q2]; rfl
  | true =>
   refine Ev.step (f := fun k => bastilleref25_Name.l0 k s ((i + 1 : Nat) : Int)) (fun k => ?_) (by simpa using hn)
   rw [bastilleref25_Name.l0, if_pos a1, if_pos a2, hc, nx]
   simp only [okc, Bool.or_eq_true, Bool.and_eq_true, decide_eq_true_eq] at ho
   by_cases q1 : c ≥ 97
   ·rw [if_pos q1, if_pos (by omega), if_pos (by omega)]
   ·rw [if_neg q1, if_pos (by omega), if_pos (by omega)]
theorem rname_ev (s : ByteArray) (hs : s.size ≤ 4611686018427387904) : Ev (fun k => bastilleref25_Name.f k s) (nameB s) := by
 unfold nameB
 by_cases h1 : 1 ≤ s.size
 ·by_cases h2 : s.size ≤ 12
  ·rw [decide_eq_true h1, decide_eq_true h2, Bool.and_true, Bool.and_true]
   have h := rname_l0 s hs s.size 0 (by omega)
   refine Ev.step (f := fun k => bastilleref25_Name.l0 k s ((0 : Nat) : Int)) (fun k => ?_) h
   rw [bastilleref25_Name.f, if_neg (by omega), bastilleref25_Name.j0, if_neg (by simp; omega)]
   rfl
  ·rw [decide_eq_false h2, Bool.and_false]
   refine Ev.some_ (fun k => ?_)
   rw [bastilleref25_Name.f, if_neg (by omega), bastilleref25_Name.j0, if_pos (by simp; omega)]
 ·rw [decide_eq_false h1, Bool.and_false, Bool.false_and]
  refine Ev.some_ (fun k => ?_)
  rw [bastilleref25_Name.f, if_pos (by omega), bastilleref25_Name.j0, if_pos rfl]
def textB (s : ByteArray) (has : Bool) : Bool := if has = true then nameB s else (s.toList == ([] : List UInt8))
def rangeB (a lo hi : Int) (has : Bool) : Bool := if has = true then decide (lo ≤ a) && decide (a ≤ hi) else (a == 0)
theorem text_ev (s : ByteArray) (has : Bool) (hs : s.size ≤ 4611686018427387904) : Ev (fun k => call_text.f k s has) (textB s has) := by
 unfold call_text.f textB
 cases has with
 | true =>
  simp only [if_true]
  exact Ev.bind (tree_ev s hs) (Ev.now _)
 | false => exact Ev.now _
theorem number_eq (a lo hi : Int) (has : Bool) : call_number.f a lo hi has = some (rangeB a lo hi has) := by
 unfold call_number.f rangeB
 cases has with
 | true =>
  simp only [if_true]
  by_cases h : a ≥ lo
  ·rw [if_pos h, decide_eq_true (show lo ≤ a from h), Bool.true_and]
  ·rw [if_neg h, decide_eq_false (show ¬ lo ≤ a from h), Bool.false_and]
 | false => rfl
def fB (kd m : Int) : Bool := Go.bits .and .i64 (rd fieldsT kd) m != 0
def mayB (kd : Int) (u f n o : ByteArray) (ro ve : Int) (l7 : List Int) : Bool :=
 decide (1 ≤ kd) && (decide (kd ≤ 16) && (nameB u && (textB f (fB kd 1) && (textB n (fB kd 2) && (textB o (fB kd 4 || (fB kd 8 && (o.toList != []))) &&
  (!((!(fB kd 1)) && (o.toList == u.toList) || (kd == 2) && (o.toList == f.toList)) && (rangeB ro 1 4 (fB kd 16) && (rangeB ve 0 1099511627776 (fB kd 32) && rangeB (l7.length : Int) 0 512 (fB kd 64)))))))))
theorem may_ev (kd : Int) (u f n o : ByteArray) (ro ve : Int) (l7 : List Int) (hu : u.size ≤ 4611686018427387904) (hf : f.size ≤ 4611686018427387904) (hn : n.size ≤ 4611686018427387904) (ho : o.size ≤ 4611686018427387904) :
  Ev (fun k => call_May.f k kd u f n o ro ve l7) (mayB kd u f n o ro ve l7) := by
 unfold call_May.f mayB
 by_cases h1 : kd < 1
 ·simp only [if_pos h1, decide_eq_false (show ¬ 1 ≤ kd by omega), Bool.false_and]
  exact Ev.now _
 by_cases h2 : kd > 16
 ·simp only [if_neg h1, if_pos h2, decide_eq_false (show ¬ kd ≤ 16 by omega), Bool.false_and, Bool.and_false]
  exact Ev.now _
 simp only [if_neg h1, if_neg h2, decide_eq_true (show 1 ≤ kd by omega), decide_eq_true (show kd ≤ 16 by omega), Bool.true_and]
 refine Ev.bind (tree_ev u hu) ?_
 cases hb : nameB u with
 | false => exact Ev.now _
 | true =>
  simp only [if_true, Bool.true_and]
  refine Ev.bind (text_ev f _ hf) ?_
  show Ev _ (textB f (fB kd 1) && _)
  rw [show textB f (Go.bits .and .i64 (rd fieldsT kd) 1 != 0) = textB f (fB kd 1) from rfl]
  cases hb : textB f (fB kd 1) with
  | false => exact Ev.now _
  | true =>
   simp only [if_true, Bool.true_and]
   refine Ev.bind (text_ev n _ hn) ?_
   rw [show textB n (Go.bits .and .i64 (rd fieldsT kd) 2 != 0) = textB n (fB kd 2) from rfl]
   cases hb : textB n (fB kd 2) with
   | false => exact Ev.now _
   | true =>
    simp only [if_true, Bool.true_and]
    refine Ev.bind (text_ev o _ ho) ?_
    rw [show textB o ((Go.bits .and .i64 (rd fieldsT kd) 4 != 0) || ((Go.bits .and .i64 (rd fieldsT kd) 8 != 0) && (o.toList != []))) = textB o (fB kd 4 || (fB kd 8 && (o.toList != []))) from rfl]
    cases hb : textB o (fB kd 4 || (fB kd 8 && (o.toList != []))) with
    | false => exact Ev.now _
    | true =>
     simp only [if_true, Bool.true_and]
     unfold mayT
     have e1 : (Go.bits .and .i64 (rd fieldsT kd) 1 == 0) = !(fB kd 1) := by unfold fB; simp [bne]
     rw [e1]
     cases hq : ((!(fB kd 1)) && (o.toList == u.toList) || (kd == 2) && (o.toList == f.toList)) with
     | true => exact Ev.now _
     | false =>
      simp only [Bool.false_eq_true, if_false, number_eq, Option.bind_some, Bool.not_false, Bool.true_and]
      rw [show rangeB ro 1 4 (Go.bits .and .i64 (rd fieldsT kd) 16 != 0) = rangeB ro 1 4 (fB kd 16) from rfl, show rangeB ve 0 1099511627776 (Go.bits .and .i64 (rd fieldsT kd) 32 != 0) = rangeB ve 0 1099511627776 (fB kd 32) from rfl, show rangeB (l7.length : Int) 0 512 (Go.bits .and .i64 (rd fieldsT kd) 64 != 0) = rangeB (l7.length : Int) 0 512 (fB kd 64) from rfl]
      cases hb : rangeB ro 1 4 (fB kd 16) with
      | false => exact Ev.now _
      | true =>
       cases hb : rangeB ve 0 1099511627776 (fB kd 32) with
       | false => exact Ev.now _
       | true => exact Ev.now _
def chkB : Chk → Bool
 | .name s => nameB s
 | .b c => c
def chkS : Chk → Prop
 | .name s => s.size ≤ 4611686018427387904
 | .b _ => True
theorem mayK_ev (last : Bool) : ∀ l : List Chk, (∀ c ∈ l, chkS c) → Ev (fun k => mayK k last l) (l.all chkB && last)
 | [], _ => by simp only [mayK, List.all_nil, Bool.true_and]; exact Ev.now _
 | .name s :: t, h => by
  simp only [mayK, List.all_cons, chkB]
  refine Ev.bind (rname_ev s (h (.name s) (by simp))) ?_
  cases nameB s with
  | false => exact Ev.now _
  | true =>
   simp only [if_true, Bool.true_and]
   exact mayK_ev last t (fun c hc => h c (by simp [hc]))
 | .b c :: t, h => by
  simp only [mayK, List.all_cons, chkB]
  cases c with
  | false => exact Ev.now _
  | true =>
   simp only [if_true, Bool.true_and]
   exact mayK_ev last t (fun c hc => h c (by simp [hc]))
theorem chk_size (kd : Int) (u f n o : ByteArray) (ro ve : Int) (hf : f.size ≤ 4611686018427387904) (hn : n.size ≤ 4611686018427387904) (ho : o.size ≤ 4611686018427387904) : ∀ c ∈ chkOf kd u f n o ro ve, chkS c := by
 intro c hc
 unfold chkOf at hc
 by_cases e1 : kd = 1
 ·rw [if_pos e1] at hc; simp only [List.mem_cons, List.mem_nil_iff, or_false, List.not_mem_nil] at hc; (repeat' (rcases hc with hc | hc)) <;> (first | exact trivial | exact hf | exact hn | exact ho)
 rw [if_neg e1] at hc
 by_cases e2 : kd = 2
 ·rw [if_pos e2] at hc
  by_cases eo : (o.toList == ([] : List UInt8)) = true
  ·rw [if_pos eo] at hc; simp only [List.mem_cons, List.mem_nil_iff, or_false, List.not_mem_nil] at hc; (repeat' (rcases hc with hc | hc)) <;> (first | exact trivial | exact hf | exact hn | exact ho)
  ·rw [if_neg eo] at hc; simp only [List.mem_cons, List.mem_nil_iff, or_false, List.not_mem_nil] at hc; (repeat' (rcases hc with hc | hc)) <;> (first | exact trivial | exact hf | exact hn | exact ho)
 rw [if_neg e2] at hc
 by_cases e3 : kd = 3
 ·rw [if_pos e3] at hc
  by_cases eo : (o.toList == ([] : List UInt8)) = true
  ·rw [if_pos eo] at hc; simp only [List.mem_cons, List.mem_nil_iff, or_false, List.not_mem_nil] at hc; (repeat' (rcases hc with hc | hc)) <;> (first | exact trivial | exact hf | exact hn | exact ho)
  ·rw [if_neg eo] at hc; simp only [List.mem_cons, List.mem_nil_iff, or_false, List.not_mem_nil] at hc; (repeat' (rcases hc with hc | hc)) <;> (first | exact trivial | exact hf | exact hn | exact ho)
 rw [if_neg e3] at hc
 by_cases e4 : kd = 4
 ·rw [if_pos e4] at hc; simp only [List.mem_cons, List.mem_nil_iff, or_false, List.not_mem_nil] at hc; (repeat' (rcases hc with hc | hc)) <;> (first | exact trivial | exact hf | exact hn | exact ho)
 rw [if_neg e4] at hc
 by_cases e5 : kd = 5
 ·rw [if_pos e5] at hc; simp only [List.mem_cons, List.mem_nil_iff, or_false, List.not_mem_nil] at hc; (repeat' (rcases hc with hc | hc)) <;> (first | exact trivial | exact hf | exact hn | exact ho)
 rw [if_neg e5] at hc
 by_cases e6 : kd = 6
 ·rw [if_pos e6] at hc; simp only [List.mem_cons, List.mem_nil_iff, or_false, List.not_mem_nil] at hc; (repeat' (rcases hc with hc | hc)) <;> (first | exact trivial | exact hf | exact hn | exact ho)
 rw [if_neg e6] at hc
 by_cases e7 : kd = 7
 ·rw [if_pos e7] at hc; simp only [List.mem_cons, List.mem_nil_iff, or_false, List.not_mem_nil] at hc; (repeat' (rcases hc with hc | hc)) <;> (first | exact trivial | exact hf | exact hn | exact ho)
 rw [if_neg e7] at hc
 by_cases e8 : kd = 8
 ·rw [if_pos e8] at hc; simp only [List.mem_cons, List.mem_nil_iff, or_false, List.not_mem_nil] at hc; (repeat' (rcases hc with hc | hc)) <;> (first | exact trivial | exact hf | exact hn | exact ho)
 rw [if_neg e8] at hc
 by_cases e9 : kd = 9
 ·rw [if_pos e9] at hc; simp only [List.mem_cons, List.mem_nil_iff, or_false, List.not_mem_nil] at hc; (repeat' (rcases hc with hc | hc)) <;> (first | exact trivial | exact hf | exact hn | exact ho)
 rw [if_neg e9] at hc
 by_cases e10 : kd = 10
 ·rw [if_pos e10] at hc; simp only [List.mem_cons, List.mem_nil_iff, or_false, List.not_mem_nil] at hc; (repeat' (rcases hc with hc | hc)) <;> (first | exact trivial | exact hf | exact hn | exact ho)
 rw [if_neg e10] at hc
 by_cases e11 : kd = 11
 ·rw [if_pos e11] at hc; simp only [List.mem_cons, List.mem_nil_iff, or_false, List.not_mem_nil] at hc; (repeat' (rcases hc with hc | hc)) <;> (first | exact trivial | exact hf | exact hn | exact ho)
 rw [if_neg e11] at hc
 by_cases e12 : kd = 12
 ·rw [if_pos e12] at hc; simp only [List.mem_cons, List.mem_nil_iff, or_false, List.not_mem_nil] at hc; (repeat' (rcases hc with hc | hc)) <;> (first | exact trivial | exact hf | exact hn | exact ho)
 rw [if_neg e12] at hc
 by_cases e13 : kd = 13
 ·rw [if_pos e13] at hc; simp only [List.mem_cons, List.mem_nil_iff, or_false, List.not_mem_nil] at hc; (repeat' (rcases hc with hc | hc)) <;> (first | exact trivial | exact hf | exact hn | exact ho)
 rw [if_neg e13] at hc
 by_cases e14 : kd = 14
 ·rw [if_pos e14] at hc; simp only [List.mem_cons, List.mem_nil_iff, or_false, List.not_mem_nil] at hc; (repeat' (rcases hc with hc | hc)) <;> (first | exact trivial | exact hf | exact hn | exact ho)
 rw [if_neg e14] at hc
 by_cases e15 : kd = 15
 ·rw [if_pos e15] at hc; simp only [List.mem_cons, List.mem_nil_iff, or_false, List.not_mem_nil] at hc; (repeat' (rcases hc with hc | hc)) <;> (first | exact trivial | exact hf | exact hn | exact ho)
 rw [if_neg e15] at hc
 by_cases e16 : kd = 16
 ·rw [if_pos e16] at hc; simp only [List.mem_cons, List.mem_nil_iff, or_false, List.not_mem_nil] at hc; (repeat' (rcases hc with hc | hc)) <;> (first | exact trivial | exact hf | exact hn | exact ho)
 rw [if_neg e16] at hc
 cases hc
theorem name_ne {s : ByteArray} (h : nameB s = true) : (s.toList == ([] : List UInt8)) = false := by
 refine beq_eq_false_iff_ne.2 (fun e => ?_)
 have hz : s.size = 0 := by
  have := congrArg List.length e
  rw [ByteArray.toList_eq] at this
  simpa using this
 simp [nameB, hz] at h
theorem kinds16 {kd : Int} (h1 : 1 ≤ kd) (h2 : kd ≤ 16) : kd = 1 ∨ kd = 2 ∨ kd = 3 ∨ kd = 4 ∨ kd = 5 ∨ kd = 6 ∨ kd = 7 ∨ kd = 8 ∨ kd = 9 ∨ kd = 10 ∨ kd = 11 ∨ kd = 12 ∨ kd = 13 ∨ kd = 14 ∨ kd = 15 ∨ kd = 16 := by omega
theorem fb1 : fB 1 1 = false ∧ fB 1 2 = false ∧ fB 1 4 = false ∧ fB 1 8 = false ∧ fB 1 16 = false ∧ fB 1 32 = false ∧ fB 1 64 = false := by decide +kernel
theorem fb2 : fB 2 1 = true ∧ fB 2 2 = false ∧ fB 2 4 = false ∧ fB 2 8 = true ∧ fB 2 16 = false ∧ fB 2 32 = false ∧ fB 2 64 = false := by decide +kernel
theorem fb3 : fB 3 1 = true ∧ fB 3 2 = false ∧ fB 3 4 = false ∧ fB 3 8 = true ∧ fB 3 16 = false ∧ fB 3 32 = false ∧ fB 3 64 = false := by decide +kernel
theorem fb4 : fB 4 1 = true ∧ fB 4 2 = false ∧ fB 4 4 = false ∧ fB 4 8 = false ∧ fB 4 16 = false ∧ fB 4 32 = false ∧ fB 4 64 = false := by decide +kernel
theorem fb5 : fB 5 1 = true ∧ fB 5 2 = false ∧ fB 5 4 = true ∧ fB 5 8 = false ∧ fB 5 16 = true ∧ fB 5 32 = false ∧ fB 5 64 = false := by decide +kernel
theorem fb6 : fB 6 1 = true ∧ fB 6 2 = false ∧ fB 6 4 = true ∧ fB 6 8 = false ∧ fB 6 16 = true ∧ fB 6 32 = false ∧ fB 6 64 = false := by decide +kernel
theorem fb7 : fB 7 1 = true ∧ fB 7 2 = false ∧ fB 7 4 = true ∧ fB 7 8 = false ∧ fB 7 16 = false ∧ fB 7 32 = false ∧ fB 7 64 = false := by decide +kernel
theorem fb8 : fB 8 1 = true ∧ fB 8 2 = true ∧ fB 8 4 = false ∧ fB 8 8 = false ∧ fB 8 16 = false ∧ fB 8 32 = false ∧ fB 8 64 = true := by decide +kernel
theorem fb9 : fB 9 1 = true ∧ fB 9 2 = true ∧ fB 9 4 = false ∧ fB 9 8 = false ∧ fB 9 16 = false ∧ fB 9 32 = true ∧ fB 9 64 = false := by decide +kernel
theorem fb10 : fB 10 1 = true ∧ fB 10 2 = false ∧ fB 10 4 = false ∧ fB 10 8 = false ∧ fB 10 16 = false ∧ fB 10 32 = false ∧ fB 10 64 = false := by decide +kernel
theorem fb11 : fB 11 1 = true ∧ fB 11 2 = true ∧ fB 11 4 = false ∧ fB 11 8 = false ∧ fB 11 16 = false ∧ fB 11 32 = false ∧ fB 11 64 = false := by decide +kernel
theorem fb12 : fB 12 1 = true ∧ fB 12 2 = true ∧ fB 12 4 = false ∧ fB 12 8 = false ∧ fB 12 16 = false ∧ fB 12 32 = false ∧ fB 12 64 = false := by decide +kernel
theorem fb13 : fB 13 1 = true ∧ fB 13 2 = false ∧ fB 13 4 = false ∧ fB 13 8 = false ∧ fB 13 16 = false ∧ fB 13 32 = false ∧ fB 13 64 = false := by decide +kernel
theorem fb14 : fB 14 1 = false ∧ fB 14 2 = false ∧ fB 14 4 = true ∧ fB 14 8 = false ∧ fB 14 16 = false ∧ fB 14 32 = false ∧ fB 14 64 = false := by decide +kernel
theorem fb15 : fB 15 1 = false ∧ fB 15 2 = false ∧ fB 15 4 = false ∧ fB 15 8 = false ∧ fB 15 16 = false ∧ fB 15 32 = false ∧ fB 15 64 = false := by decide +kernel
theorem fb16 : fB 16 1 = false ∧ fB 16 2 = false ∧ fB 16 4 = true ∧ fB 16 8 = false ∧ fB 16 16 = false ∧ fB 16 32 = false ∧ fB 16 64 = false := by decide +kernel
theorem may_eq (kd : Int) (u f n o : ByteArray) (ro ve : Int) (l7 : List Int) (hu : nameB u = true) (h1 : 1 ≤ kd) (h2 : kd ≤ 16) : ((chkOf kd u f n o ro ve).all chkB && lastOf kd l7) = mayB kd u f n o ro ve l7 := by
 have hl : decide ((0 : Int) ≤ (l7.length : Int)) = true := decide_eq_true (by omega)
 have hm : decide ((l7.length : Int) ≤ 512) = decide (l7.length ≤ 512) := decide_eq_decide.2 (by omega)
 have hz : ((l7.length : Int) == 0) = (l7.length == 0) := by
  by_cases c : l7.length = 0
  ·rw [c]; rfl
  ·rw [beq_eq_false_iff_ne.2 c, beq_eq_false_iff_ne.2 (by omega)]
 have hou : (o.toList == ([] : List UInt8)) = true → (o.toList == u.toList) = false := by
  intro e
  have := name_ne hu
  rw [beq_iff_eq.1 e]
  cases hq : u.toList with
  | nil => rw [hq] at this; cases this
  | cons a t => rfl
 obtain rfl | rfl | rfl | rfl | rfl | rfl | rfl | rfl | rfl | rfl | rfl | rfl | rfl | rfl | rfl | rfl := kinds16 h1 h2
 all_goals cases hc : (o.toList == ([] : List UInt8))
 all_goals rw [hc] at hou
 all_goals try simp only [Bool.false_eq_true, false_implies, reduceCtorEq, forall_const] at hou
 all_goals try simp only [mayB, hu, fb1, fb2, fb3, fb4, fb5, fb6, fb7, fb8, fb9, fb10, fb11, fb12, fb13, fb14, fb15, fb16, textB, rangeB, hl, hm, hz, chkOf, lastOf, Int.reduceEq, Int.reduceBEq, Int.reduceLE, decide_true, decide_false, if_true, if_false, hc, bne, Bool.not_true, Bool.not_false, Bool.false_eq_true, Bool.true_and, Bool.false_and, Bool.and_true, Bool.and_false, Bool.or_false, Bool.or_true, Bool.true_or, Bool.false_or, List.all_cons, List.all_nil, chkB, reduceCtorEq, forall_const, false_implies, Bool.true_eq_false]
 all_goals try simp only [hou, Bool.not_true, Bool.not_false, Bool.true_and, Bool.false_and, Bool.and_true, Bool.and_false]
 all_goals try (generalize nameB f = b0 at *)
 all_goals try (generalize nameB n = b1 at *)
 all_goals try (generalize nameB o = b2 at *)
 all_goals try (generalize (o.toList == u.toList) = b3 at *)
 all_goals try (generalize (o.toList == f.toList) = b4 at *)
 all_goals try (generalize (f.toList == ([] : List UInt8)) = b5 at *)
 all_goals try (generalize (n.toList == ([] : List UInt8)) = b6 at *)
 all_goals try (generalize (ro == 0) = b7 at *)
 all_goals try (generalize (ve == 0) = b8 at *)
 all_goals try (generalize decide (1 ≤ ro) = b9 at *)
 all_goals try (generalize decide (ro ≤ 4) = b10 at *)
 all_goals try (generalize decide (0 ≤ ve) = b11 at *)
 all_goals try (generalize decide (ve ≤ 1099511627776) = b12 at *)
 all_goals try (generalize (l7.length == 0) = b13 at *)
 all_goals try (generalize decide (l7.length ≤ 512) = b14 at *)
 all_goals try (cases b0 <;> try rfl)
 all_goals try (cases b1 <;> try rfl)
 all_goals try (cases b2 <;> try rfl)
 all_goals try (cases b3 <;> try rfl)
 all_goals try (cases b4 <;> try rfl)
 all_goals try (cases b5 <;> try rfl)
 all_goals try (cases b6 <;> try rfl)
 all_goals try (cases b7 <;> try rfl)
 all_goals try (cases b8 <;> try rfl)
 all_goals try (cases b9 <;> try rfl)
 all_goals try (cases b10 <;> try rfl)
 all_goals try (cases b11 <;> try rfl)
 all_goals try (cases b12 <;> try rfl)
 all_goals try (cases b13 <;> try rfl)
 all_goals try (cases b14 <;> try rfl)
theorem rmay_ev (kd : Int) (u f n o : ByteArray) (ro ve : Int) (l7 : List Int) (hu : u.size ≤ 4611686018427387904) (hf : f.size ≤ 4611686018427387904) (hn : n.size ≤ 4611686018427387904) (ho : o.size ≤ 4611686018427387904) :
  Ev (fun k => bastilleref30_May.f k kd u f n o ro ve l7) (mayB kd u f n o ro ve l7) := by
 unfold bastilleref30_May.f
 refine Ev.bind (rname_ev u hu) ?_
 cases hb : nameB u with
 | false =>
  have : mayB kd u f n o ro ve l7 = false := by simp [mayB, hb]
  rw [this]
  exact Ev.now _
 | true =>
  simp only [if_true]
  by_cases h1 : kd < 1
  ·have : mayB kd u f n o ro ve l7 = false := by simp [mayB]; omega
   rw [this]
   simp only [if_pos h1]
   exact Ev.now _
  by_cases h2 : kd > 16
  ·have : mayB kd u f n o ro ve l7 = false := by
    unfold mayB
    rw [decide_eq_false (show ¬ kd ≤ 16 by omega), Bool.false_and, Bool.and_false]
   rw [this]
   simp only [if_neg h1, if_pos h2]
   exact Ev.now _
  simp only [if_neg h1, if_neg h2]
  rw [← may_eq kd u f n o ro ve l7 hb (by omega) (by omega)]
  exact mayK_ev _ _ (chk_size kd u f n o ro ve hf hn ho)
def kindsB : List S43 → List Int → Bool
 | x :: s, y :: t => (x.f0 == y) && kindsB s t
 | _, _ => true
def wantB (a0 : Int) (l : List S43) (ks : List Int) : Bool := decide (a0 = 3) && decide (l.length = ks.length) && kindsB l ks
theorem kinds_step (s : List S43) (t : List Int) (i : Nat) (hs : i < s.length) (ht : i < t.length) : kindsB (s.drop i) (t.drop i) = (((rd_T43 s (i : Int)).f0 == rd t (i : Int)) && kindsB (s.drop (i + 1)) (t.drop (i + 1))) := by
 rw [List.drop_eq_getElem_cons hs, List.drop_eq_getElem_cons ht]
 simp only [kindsB, rd_T43, rd, Int.toNat_natCast, List.getD_eq_getElem?_getD, List.getElem?_eq_getElem hs, List.getElem?_eq_getElem ht, Option.getD_some]
theorem fields_l0 (a0 a1 : Int) (l2 : List Int) (l3 : List S43) (ks : List Int) (hl : l3.length = ks.length) (hm : ks.length ≤ 1000000) : ∀ (d i : Nat), i + d = ks.length →
  Ev (fun k => codec_Fields.l0 k ks (ks.length : Int) (i : Int) a0 a1 l2 l3) (if kindsB (l3.drop i) (ks.drop i) = true then (l3, true) else ([], false)) := by
 intro d
 induction d with
 | zero =>
  intro i h
  rw [show l3.drop i = [] from drop_end l3 i (by omega)]
  exact Ev.some_ (fun k => by rw [codec_Fields.l0, if_neg (by omega)]; simp [kindsB])
 | succ d ih =>
  intro i h
  rw [kinds_step l3 ks i (by omega) (by omega)]
  by_cases he : (rd_T43 l3 (i : Int)).f0 = rd ks (i : Int)
  ·have hb : ((rd_T43 l3 (i : Int)).f0 == rd ks (i : Int)) = true := beq_iff_eq.2 he
   rw [hb, Bool.true_and]
   refine Ev.step (f := fun k => codec_Fields.l0 k ks (ks.length : Int) ((i + 1 : Nat) : Int) a0 a1 l2 l3) (fun k => ?_) (ih (i + 1) (by omega))
   have q : (i : Int) < (l3.length : Int) := by omega
   rw [codec_Fields.l0, if_pos (by omega), if_pos (by omega), if_pos (by omega)]
   simp only [if_pos q, if_pos he, ix_next i (by omega), ite_self]
  ·have hb : ((rd_T43 l3 (i : Int)).f0 == rd ks (i : Int)) = false := beq_eq_false_iff_ne.2 he
   rw [hb, Bool.false_and]
   refine Ev.some_ (fun k => ?_)
   have q : (i : Int) < (l3.length : Int) := by omega
   rw [codec_Fields.l0, if_pos (by omega), if_pos (by omega), if_pos (by omega)]
   simp only [if_pos q, if_neg he, ite_self, Bool.false_eq_true, if_false]
theorem fields_ev (a0 a1 : Int) (l2 : List Int) (l3 : List S43) (ks : List Int) (hm : ks.length ≤ 1000000) :
  Ev (fun k => codec_Fields.f k a0 a1 l2 l3 ks) (if wantB a0 l3 ks = true then (l3, true) else ([], false)) := by
 by_cases h0 : a0 = 3
 ·by_cases hl : l3.length = ks.length
  ·refine Ev.step (f := fun k => codec_Fields.l0 k ks (ks.length : Int) ((0 : Nat) : Int) a0 a1 l2 l3) (fun k => ?_) ?_
   ·rw [codec_Fields.f, if_pos h0, codec_Fields.j0, if_neg (by simp; omega)]
    rfl
   ·have h := fields_l0 a0 a1 l2 l3 ks hl hm ks.length 0 (by omega)
    simpa [wantB, h0, hl] using h
  ·refine Ev.some_ (fun k => ?_)
   rw [codec_Fields.f, if_pos h0, codec_Fields.j0, if_pos (by simp; omega)]
   simp [wantB, hl]
 ·refine Ev.some_ (fun k => ?_)
  rw [codec_Fields.f, if_neg h0, codec_Fields.j0, if_pos rfl]
  simp [wantB, h0]
theorem awake30_ev : Ev (fun k => bastillelaw30_awake.f k) true := Ev.of (fun k => bastillelaw30_awake.mono k) (k := 40) (by decide +kernel)
section
variable (a0 : Int) (a1 a2 a3 a4 : ByteArray) (a5 a6 : Int) (a7 : List Int) (b0 : Int) (b1 b2 b3 b4 : ByteArray) (b5 b6 : Int) (b7 : List Int)
def sameC : Prop := a0 = b0 ∧ a1.toList = b1.toList ∧ a2.toList = b2.toList ∧ a3.toList = b3.toList ∧ a4.toList = b4.toList ∧ a5 = b5 ∧ a6 = b6 ∧ a7 = b7
instance : Decidable (sameC a0 a1 a2 a3 a4 a5 a6 a7 b0 b1 b2 b3 b4 b5 b6 b7) := by unfold sameC; infer_instance
theorem rsame30_ev (h7 : a7.length ≤ 100000) : Ev (fun k => bastilleref30_Same.f k a0 a1 a2 a3 a4 a5 a6 a7 b0 b1 b2 b3 b4 b5 b6 b7) (decide (sameC a0 a1 a2 a3 a4 a5 a6 a7 b0 b1 b2 b3 b4 b5 b6 b7)) := by
 refine Ev.fin (a7.length + 1) (fun k hk => ?_)
 rw [bastilleref30_Same.f, same_ev a7 b7 (by omega) k hk, Option.bind_some]
 unfold sameC
 by_cases c7 : a7 = b7 <;> by_cases c0 : a0 = b0 <;> by_cases c5 : a5 = b5 <;> by_cases c6 : a6 = b6 <;> by_cases c1 : a1.toList = b1.toList <;> by_cases c2 : a2.toList = b2.toList <;> by_cases c3 : a3.toList = b3.toList <;> by_cases c4 : a4.toList = b4.toList <;> simp [c7, c0, c5, c6, c1, c2, c3, c4]
end
def callS (kd : Int) (u f n o : ByteArray) (ro ve : Int) (l7 : List Int) : S43 := ⟨3, 0, [], row8 kd u f n o ro ve l7⟩
section
variable (kd : Int) (u f n o : ByteArray) (ro ve : Int) (l7 : List Int)
theorem small_call (hu : u.size ≤ 100000) (hf : f.size ≤ 100000) (hn : n.size ≤ 100000) (ho : o.size ≤ 100000) (h7 : l7.length ≤ 100000) : Small (callS kd u f n o ro ve l7) := by
 refine ⟨?_, ?_⟩
 ·simp [callS, row8, cntS, cntL]
 ·simp [callS, row8, okS, okL, bytesOf_length]
  omega
theorem szOk_of (hu : u.size ≤ 9223372036854775807) (hf : f.size ≤ 9223372036854775807) (hn : n.size ≤ 9223372036854775807) (ho : o.size ≤ 9223372036854775807) : szOk u f n o = true := by simp [szOk]; omega
theorem write_ev (hu : u.size ≤ 100000) (hf : f.size ≤ 100000) (hn : n.size ≤ 100000) (ho : o.size ≤ 100000) (h7 : l7.length ≤ 100000) :
  Ev (fun k => call_Write.f k kd u f n o ro ve l7) (if mayB kd u f n o ro ve l7 = true then (if rightS (callS kd u f n o ro ve l7) = true then (bytesS (callS kd u f n o ro ve l7), 0) else ([], 2)) else ([], 13)) := by
 unfold call_Write.f
 simp only [if_pos (szOk_of u f n o (by omega) (by omega) (by omega) (by omega))]
 refine Ev.bind (may_ev kd u f n o ro ve l7 (by omega) (by omega) (by omega) (by omega)) ?_
 cases mayB kd u f n o ro ve l7 with
 | false => exact Ev.now _
 | true =>
  simp only [if_true]
  exact encode_ev (callS kd u f n o ro ve l7) (small_call kd u f n o ro ve l7 hu hf hn ho h7)
end
def mayT8 (c : Int × ByteArray × ByteArray × ByteArray × ByteArray × Int × Int × List Int) : Bool := mayB c.1 c.2.1 c.2.2.1 c.2.2.2.1 c.2.2.2.2.1 c.2.2.2.2.2.1 c.2.2.2.2.2.2.1 c.2.2.2.2.2.2.2
def readT (b : List Int) : (Int × ByteArray × ByteArray × ByteArray × ByteArray × Int × Int × List Int) × Int :=
 if (decT b).2 = 0 then (if wantB (decT b).1.f0 (decT b).1.f3 [1, 2, 2, 2, 2, 1, 1, 2] = true then (if mayT8 (rd8 (decT b).1.f3) = true then (rd8 (decT b).1.f3, 0) else (zCall, 13)) else (zCall, 13)) else (zCall, 13)
theorem mayC_ev (c : Int × ByteArray × ByteArray × ByteArray × ByteArray × Int × Int × List Int) (hu : c.2.1.size ≤ 4611686018427387904) (hf : c.2.2.1.size ≤ 4611686018427387904) (hn : c.2.2.2.1.size ≤ 4611686018427387904) (ho : c.2.2.2.2.1.size ≤ 4611686018427387904) : Ev (fun k => mayC k c) (mayT8 c) := may_ev _ _ _ _ _ _ _ _ hu hf hn ho
theorem rd_size (v : S43) (h : okS v = true) (i : Int) : (strOfNums (rd_T43 v.f3 i).f2).size ≤ 100000 := by
 rw [strOfNums_size]
 unfold rd_T43
 by_cases hi : i.toNat < v.f3.length
 ·rw [List.getD_eq_getElem?_getD, List.getElem?_eq_getElem hi, Option.getD_some]
  exact (ok_f3 _ ((ok_f3 v h).2 _ (List.getElem_mem hi))).1
 ·rw [List.getD_eq_getElem?_getD, List.getElem?_eq_none (by omega), Option.getD_none]
  simp [z43]
theorem read_ev (b : List Int) (hb : ByteOk b) (hl : b.length ≤ 100000) : Ev (fun k => call_Read.f k b) (readT b) := by
 unfold call_Read.f readT
 refine Ev.bind (decode_ev b hb) ?_
 by_cases h0 : (decT b).2 = 0
 rotate_left
 ·simp only [if_neg h0]
  exact Ev.now _
 simp only [if_pos h0]
 refine Ev.bind (fields_ev _ _ _ _ [1, 2, 2, 2, 2, 1, 1, 2] (by decide)) ?_
 cases hw : wantB (decT b).1.f0 (decT b).1.f3 [1, 2, 2, 2, 2, 1, 1, 2] with
 | false => exact Ev.now _
 | true =>
  obtain ⟨h1, h2, h3, h4⟩ := decT_ok b hb h0
  have hs := small_of _ h3 (by rw [← h2]; exact hl)
  have hlen : (decT b).1.f3.length = 8 := by
   simp only [wantB, Bool.and_eq_true, decide_eq_true_eq] at hw
   exact hw.1.2
  simp only [if_true, if_pos hlen]
  have sz := rd_size (decT b).1 hs.ok
  refine Ev.bind (mayC_ev (rd8 (decT b).1.f3) ?_ ?_ ?_ ?_) ?_
  ·have := sz 1; show (strOfNums _).size ≤ _; omega
  ·have := sz 2; show (strOfNums _).size ≤ _; omega
  ·have := sz 3; show (strOfNums _).size ≤ _; omega
  ·have := sz 4; show (strOfNums _).size ≤ _; omega
  ·cases mayT8 (rd8 (decT b).1.f3) with
   | false => exact Ev.now _
   | true => exact Ev.now _
theorem rget_l0 (b : List Int) (hb : ByteOk b) (hl : b.length ≤ 8) : ∀ (d k i : Nat) (acc : Int), i + d = b.length → 0 ≤ acc → acc ≤ 4611686018427387904 → d < k →
  bastilleref01_Get.l0 k b acc (i : Int) = some (if numA acc (b.drop i) > 4611686018427387904 then (0, 11) else (numA acc (b.drop i), 0)) := by
 intro d
 induction d with
 | zero =>
  intro k i acc h1 h2 h3 hk
  obtain ⟨k, rfl, _⟩ := rounds_ex (m := 0) (by omega : 0 + 1 ≤ k)
  simp only [bastilleref01_Get.l0]
  rw [if_neg (by omega), List.drop_of_length_le (by omega)]
  rw [show numA acc [] = acc from rfl, if_neg (by omega)]
 | succ d ih =>
  intro k i acc h1 h2 h3 hk
  obtain ⟨k, rfl, hk'⟩ := rounds_ex (m := d + 1) (by omega : d + 1 + 1 ≤ k)
  have hc := hb b[i] (List.getElem_mem (by omega))
  simp only [bastilleref01_Get.l0]
  rw [if_pos (by omega), if_pos (by omega), rd_get b i (by omega), w64i (x := b[i]) (by omega) (by omega)]
  have hge := numA_ge (b.drop (i + 1)) (256 * acc + b[i]) (by omega) (fun x hx => hb x (List.mem_of_mem_drop hx))
  have hd : numA acc (b.drop i) = numA (256 * acc + b[i]) (b.drop (i + 1)) := by
   rw [List.drop_eq_getElem_cons (show i < b.length by omega)]; rfl
  rw [hd]
  by_cases h4 : acc > 18014398509481984
  ·rw [if_pos h4, if_pos (by omega)]
  rw [if_neg h4]
  have hgo : 256 * acc + b[i] ≤ 4611686018427387904 → bastilleref01_Get.l0 k b (wrap64 (wrap64 (256 * acc) + b[i])) (wrap64 ((i : Int) + 1)) = some (if numA (256 * acc + b[i]) (b.drop (i + 1)) > 4611686018427387904 then (0, 11) else (numA (256 * acc + b[i]) (b.drop (i + 1)), 0)) := by
   intro h6
   rw [w64i (x := 256 * acc) (by omega) (by omega), w64i (by omega) (by omega), w64i (by omega) (by omega)]
   have := ih k (i + 1) (256 * acc + b[i]) (by omega) (by omega) h6 (by omega)
   rw [show (((i + 1 : Nat)) : Int) = (i : Int) + 1 by omega] at this
   exact this
  by_cases h5 : acc = 18014398509481984
  ·rw [if_pos h5]
   by_cases h6 : b[i] > 0
   ·rw [if_pos h6, if_pos (by omega)]
   ·rw [if_neg h6]; exact hgo (by omega)
  ·rw [if_neg h5]; exact hgo (by omega)
theorem rget (b : List Int) (hb : ByteOk b) (k : Nat) (hk : 10 ≤ k) : bastilleref01_Get.f k b = some (getS b) := by
 unfold bastilleref01_Get.f getS
 by_cases h1 : b.length = 0
 ·rw [if_pos (by omega), if_pos h1]
 by_cases h2 : b.length > 8
 ·rw [if_neg (by omega), if_pos (by omega), if_neg h1, if_pos h2]
 rw [if_neg (by omega), if_neg (by omega), if_neg h1, if_neg h2]
 have := rget_l0 b hb (by omega) b.length k 0 0 (by omega) (by omega) (by omega) (by omega)
 rw [show ((0 : Nat) : Int) = 0 by rfl, List.drop_zero] at this
 exact this
def rOut (L : Nat) : Except Int (S43 × List Int) → Int × Int × List Int × List S43 × Int × Int
 | .ok (v, r) => (v.f0, v.f1, v.f2, v.f3, ((L - r.length : Nat) : Int), 0)
 | .error e => (0, 0, [], [], 0, e)
def rOutL (L : Nat) (acc : List S43) : Except Int (List S43 × List Int) → Int × Int × List Int × List S43 × Int × Int
 | .ok (l, r) => (3, 0, [], acc ++ l, ((L - r.length : Nat) : Int), 0)
 | .error e => (0, 0, [], [], 0, e)
theorem drop_suffix {b p r : List Int} {i : Nat} (h : b.drop i = p ++ r) : b.drop (b.length - r.length) = r ∧ r.length ≤ b.length := by
 obtain ⟨q, e⟩ : ∃ q, b = q ++ r := ⟨b.take i ++ p, by rw [List.append_assoc, ← h, List.take_append_drop]⟩
 clear h
 subst e
 refine ⟨?_, by simp⟩
 rw [List.length_append, Nat.add_sub_cancel]
 exact List.drop_left
theorem take_drop_mid (b : List Int) (i n : Nat) : (b.take (i + n)).drop i = (b.drop i).take n := by rw [List.drop_take, Nat.add_sub_cancel_left]
theorem rd_drop (b : List Int) (i : Nat) (n : Int) (t : List Int) (h : b.drop i = n :: t) : rd b (i : Int) = n ∧ b.drop (i + 1) = t ∧ i < b.length := by
 have hi : i < b.length := by
  rcases Nat.lt_or_ge i b.length with q | q
  ·exact q
  ·rw [List.drop_of_length_le q] at h; cases h
 have e := getD_drop b 0 i hi
 rw [h] at e
 exact ⟨(List.cons.inj e).1.symm, (List.cons.inj e).2.symm, hi⟩
theorem rlist_ev (f : List Int → Except Int (S43 × List Int)) (q : Nat) (hq : q ≤ 16) (b : List Int) (hb : ByteOk b) (hl : b.length ≤ 2000000) (n : Nat) (hn : n ≤ 4096)
  (hv : ∀ i, i ≤ b.length → Ev (fun k => bastilleref02_Read.f k b (i : Int) (q : Int)) (rOut b.length (f (b.drop i)))) (hf : ∀ b v r, ByteOk b → f b = .ok (v, r) → ∃ p, b = p ++ r) (he : ∀ i e, f (b.drop i) = .error e → e ≠ 0) :
  ∀ (m i j : Nat) (acc : List S43), i ≤ b.length → j + m = n → acc.length = j → Ev (fun k => bastilleref02_Read.l0 k b (i : Int) ((q + 1 : Nat) : Int) (n : Int) (j : Int) 3 0 acc) (rOutL b.length acc (dList f m (b.drop i))) := by
 have ew : wrap64 (((q + 1 : Nat) : Int) - 1) = (q : Int) := by rw [w64i (by omega) (by omega)]; omega
 intro m
 induction m with
 | zero =>
  intro i j acc hi hj ha
  refine Ev.some_ (fun k => ?_)
  rw [bastilleref02_Read.l0, if_neg (by omega)]
  simp only [dList, rOutL, List.append_nil, List.length_drop]
  rw [show b.length - (b.length - i) = i by omega]
 | succ m ih =>
  intro i j acc hi hj ha
  have hacc : acc.length < 2199023255552 := by rw [ha]; exact Nat.lt_of_le_of_lt (show j ≤ 4096 by omega) (by decide)
  refine Ev.step (f := fun k => (bastilleref02_Read.f k b (i : Int) (q : Int)).bind fun bt => if bt.2.2.2.2.2 = 0 then (if acc.length < 2199023255552 then bastilleref02_Read.l0 k b bt.2.2.2.2.1 ((q + 1 : Nat) : Int) (n : Int) ((j + 1 : Nat) : Int) 3 0 (acc ++ [(⟨bt.1, bt.2.1, bt.2.2.1, bt.2.2.2.1⟩ : S43)]) else none) else some (0, 0, ([] : List Int), ([] : List S43), 0, bt.2.2.2.2.2)) (fun k => ?_) ?_
  ·rw [bastilleref02_Read.l0, if_pos (by omega), ew, ix_next j (by omega)]
  ·have hvi := hv i hi
   cases hx : f (b.drop i) with
   | error e =>
    have h0 := he i e hx
    rw [hx] at hvi
    refine Ev.bind (show Ev _ ((0 : Int), (0 : Int), ([] : List Int), ([] : List S43), (0 : Int), e) from hvi) ?_
    simp only [dList, hx, Except.bind, rOutL]
    simp only [if_neg h0]
    exact Ev.now _
   | ok z =>
    obtain ⟨⟨f0, f1, f2, f3⟩, r⟩ := z
    obtain ⟨p, hp⟩ := hf _ _ _ (byteOk_drop hb i) hx
    obtain ⟨hd, hr⟩ := drop_suffix hp
    have := ih (b.length - r.length) (j + 1) (acc ++ [(⟨f0, f1, f2, f3⟩ : S43)]) (by omega) (by omega) (by simp [ha])
    rw [hd] at this
    rw [hx] at hvi
    refine Ev.bind (show Ev _ (f0, f1, f2, f3, ((b.length - r.length : Nat) : Int), (0 : Int)) from hvi) ?_
    simp only [if_true, dList, hx, Except.bind]
    simp only [if_pos hacc]
    cases hz : dList f m r with
    | error e =>
     rw [hz] at this
     simp only [rOutL] at this ⊢
     exact this
    | ok y =>
     obtain ⟨y, r2⟩ := y
     rw [hz] at this
     simp only [rOutL, List.append_assoc, List.singleton_append] at this ⊢
     exact this
theorem w64sub (a b : Nat) (h : b ≤ a) (ha : a ≤ 2000000) : wrap64 ((a : Int) - (b : Int)) = (a : Int) - (b : Int) := w64i (by omega) (by omega)
theorem w64add (a b : Nat) (ha : a ≤ 3000000) (hb : b ≤ 20000000) : wrap64 ((a : Int) + (b : Int)) = ((a + b : Nat) : Int) := by rw [w64i (by omega) (by omega)]; omega
theorem k1a (L i n tl : Nat) (h : i + 2 ≤ L) (ht : tl = L - (i + 2)) (hlen : tl < n) : (n : Int) > (L : Int) - ((i + 2 : Nat) : Int) := by omega
theorem k1b (L i n tl : Nat) (h : i + 2 ≤ L) (ht : tl = L - (i + 2)) (hlen : ¬ tl < n) : ¬ (n : Int) > (L : Int) - ((i + 2 : Nat) : Int) ∧ ((i + 2 : Nat) : Int) ≤ ((i + 2 + n : Nat) : Int) ∧ ((i + 2 + n : Nat) : Int) ≤ (L : Int) ∧ L - (tl - n) = i + 2 + n ∧ L - tl = i + 2 := by omega
theorem k1c (L i n tl : Nat) (h : i + 2 ≤ L) (ht : tl = L - (i + 2)) (hlen : ¬ tl < n) (h0 : ¬ n = 0) : ¬ (n : Int) = 0 ∧ ((i + 2 : Nat) : Int) < (L : Int) := by omega
theorem rread_step (d : Nat) (hd : d ≤ 16) (g : Option (List Int → Except Int (S43 × List Int))) (hn : d = 0 → g = none) (b : List Int) (hb : ByteOk b) (hl : b.length ≤ 2000000)
  (hs : ∀ q, d = q + 1 → ∃ f, g = some f ∧ (∀ i, i ≤ b.length → Ev (fun k => bastilleref02_Read.f k b (i : Int) (q : Int)) (rOut b.length (f (b.drop i)))) ∧ (∀ b v r, ByteOk b → f b = .ok (v, r) → ∃ p, b = p ++ r) ∧ (∀ i e, f (b.drop i) = .error e → e ≠ 0)) :
  ∀ i, i ≤ b.length → Ev (fun k => bastilleref02_Read.f k b (i : Int) (d : Int)) (rOut b.length (dStep g (b.drop i))) := by
 intro i hi
 cases et : b.drop i with
 | nil =>
  have hz : b.length ≤ i := by
   have := congrArg List.length et
   rw [List.length_drop] at this
   simp at this
   omega
  exact Ev.some_ (fun k => by rw [bastilleref02_Read.f, if_pos (by omega)]; rfl)
 | cons c t =>
  obtain ⟨ec, et1, h⟩ := rd_drop b i c t et
  have hcb : 0 ≤ c ∧ c ≤ 255 := hb c (List.mem_of_mem_drop (by rw [et]; simp))
  have hbt : ByteOk t := by rw [← et1]; exact byteOk_drop hb _
  have lt : t.length = b.length - (i + 1) := by rw [← et1, List.length_drop]
  have wc : wrap64 c = c := w64i (by omega) (by omega)
  have w1 : wrap64 ((i : Int) + 1) = ((i + 1 : Nat) : Int) := ix_next i (by omega)
  have a1 : ¬ (i : Int) ≥ (b.length : Int) := by omega
  have a2 : (0 : Int) ≤ (i : Int) := by omega
  have a3 : (i : Int) < (b.length : Int) := by omega
  have z1 : (0 : Int) ≤ ((i + 1 : Nat) : Int) := Int.natCast_nonneg _
  have z2 : (0 : Int) ≤ ((i + 2 : Nat) : Int) := Int.natCast_nonneg _
  have z4 : (0 : Int) ≤ ((i + 4 : Nat) : Int) := Int.natCast_nonneg _
  simp only [dStep]
  by_cases h1 : c = 1
  ·subst h1
   rw [if_pos rfl]
   cases t with
   | nil =>
    simp at lt
    exact Ev.some_ (fun k => by rw [bastilleref02_Read.f, if_neg a1, if_pos a2, if_pos a3, ec, wc, if_pos rfl, w1, if_pos (by omega)]; rfl)
   | cons n t =>
    obtain ⟨en, et2, h2⟩ := rd_drop b (i + 1) n t et1
    have hnb := hbt n (by simp)
    have hbt2 : ByteOk t := fun x hx => hbt x (by simp [hx])
    have lt2 : t.length = b.length - (i + 2) := by rw [← et2, List.length_drop]
    obtain ⟨n, rfl⟩ := Int.eq_ofNat_of_zero_le hnb.1
    have wn : wrap64 (n : Int) = (n : Int) := w64i (by omega) (by omega)
    have n255 : n ≤ 255 := Int.ofNat_le.1 hnb.2
    have w2 : wrap64 (((i + 1 : Nat) : Int) + 1) = ((i + 2 : Nat) : Int) := by rw [w64i (by omega) (by omega)]; omega
    have w3 : wrap64 ((b.length : Int) - ((i + 2 : Nat) : Int)) = (b.length : Int) - ((i + 2 : Nat) : Int) := w64sub b.length (i + 2) h2 hl
    have w4 : wrap64 (((i + 2 : Nat) : Int) + (n : Int)) = ((i + 2 + n : Nat) : Int) := w64add (i + 2) n (Nat.le_trans h2 (Nat.le_trans hl (by decide))) (Nat.le_trans n255 (by decide))
    have y2 : ((i + 1 : Nat) : Int) < (b.length : Int) := Int.ofNat_lt.2 h2
    have y1 : ¬ ((i + 1 : Nat) : Int) ≥ (b.length : Int) := Int.not_le.2 y2
    simp only [dNum]
    by_cases h8 : (n : Int) > 8
    ·rw [if_pos h8]
     exact Ev.some_ (fun k => by rw [bastilleref02_Read.f, if_neg a1, if_pos a2, if_pos a3, ec, wc, if_pos rfl, w1, if_neg y1, if_pos z1, if_pos y2, en, wn, if_pos h8]; rfl)
    rw [if_neg h8, Int.toNat_natCast]
    by_cases hlen : t.length < n
    ·rw [if_pos hlen]
     exact Ev.some_ (fun k => by rw [bastilleref02_Read.f, if_neg a1, if_pos a2, if_pos a3, ec, wc, if_pos rfl, w1, if_neg y1, if_pos z1, if_pos y2, en, wn, if_neg h8, w2, w3, if_pos (k1a b.length i n t.length h2 lt2 hlen)]; rfl)
    rw [if_neg hlen]
    obtain ⟨y4, y5, y6, y8, y9⟩ := k1b b.length i n t.length h2 lt2 hlen
    by_cases h0 : n = 0
    ·subst h0
     have zz : ((0 : Nat) : Int) = 0 := rfl
     rw [if_pos zz]
     refine Ev.some_ (fun k => ?_)
     rw [bastilleref02_Read.f, if_neg a1, if_pos a2, if_pos a3, ec, wc, if_pos rfl, w1, if_neg y1, if_pos z1, if_pos y2, en, wn, if_neg h8, w2, w3, if_neg y4, if_pos zz]
     simp only [Except.bind, rOut]
     rw [y9]
    obtain ⟨y3, y7⟩ := k1c b.length i n t.length h2 lt2 hlen h0
    rw [if_neg y3]
    have ho := byteOk_take hbt2 n
    have hl' : (t.take n).length = n := by rw [List.length_take]; exact Nat.min_eq_left (Nat.le_of_not_lt hlen)
    have n8 : n ≤ 8 := Int.ofNat_le.1 (Int.not_lt.1 h8)
    have hg : getS (t.take n) = if numL (t.take n) > 4611686018427387904 then (0, 11) else (numL (t.take n), 0) := by
     unfold getS
     rw [if_neg (by rw [hl']; exact h0), if_neg (by rw [hl']; exact Nat.not_lt.2 n8)]
    have mid : (b.take (i + 2 + n)).drop (i + 2) = t.take n := by rw [take_drop_mid, et2]
    have hd0 : rd b ((i + 2 : Nat) : Int) = rd (t.take n) 0 := by
     cases t with
     | nil => exact absurd (Nat.pos_of_ne_zero h0) hlen
     | cons x s =>
      obtain ⟨ex, _, _⟩ := rd_drop b (i + 2) x s et2
      rw [ex]
      cases n with
      | zero => exact absurd rfl h0
      | succ n => rfl
    refine Ev.step (f := fun k => (bastilleref01_Get.f k (t.take n)).bind fun g => if g.2 = 0 then (if rd b ((i + 2 : Nat) : Int) = 0 then some (0, 0, ([] : List Int), ([] : List S43), 0, 11) else some (1, g.1, ([] : List Int), ([] : List S43), ((i + 2 + n : Nat) : Int), 0)) else some (0, 0, ([] : List Int), ([] : List S43), 0, 11)) (fun k => ?_) ?_
    ·rw [bastilleref02_Read.f, if_neg a1, if_pos a2, if_pos a3, ec, wc, if_pos rfl, w1, if_neg y1, if_pos z1, if_pos y2, en, wn, if_neg h8, w2, w3, if_neg y4, if_neg y3, w4, if_pos z2, if_pos y5, if_pos y6]
     simp only [Int.toNat_natCast, mid, if_pos y7]
    ·refine Ev.bind (Ev.fin 10 (fun k hk => rget _ ho k hk)) ?_
     rw [hg]
     by_cases ht : numL (t.take n) > 4611686018427387904
     ·rw [if_pos ht, if_pos ht]
      exact Ev.now _
     ·rw [if_neg ht, if_neg ht, hd0]
      simp only [if_true]
      by_cases hz : rd (t.take n) 0 = 0
      ·rw [if_pos hz]
       simp only [if_pos hz]
       exact Ev.now _
      ·rw [if_neg hz]
       simp only [if_neg hz, Except.bind, rOut, List.length_drop]
       rw [y8]
       exact Ev.now _
  rw [if_neg h1]
  by_cases h2 : c = 2
  ·subst h2
   rw [if_pos rfl]
   unfold dRaw
   have w2 : wrap64 ((b.length : Int) - ((i + 1 : Nat) : Int)) = (b.length : Int) - ((i + 1 : Nat) : Int) := w64i (by omega) (by omega)
   by_cases h3 : t.length < 3
   ·rw [if_pos h3]
    exact Ev.some_ (fun k => by rw [bastilleref02_Read.f, if_neg a1, if_pos a2, if_pos a3, ec, wc, if_neg h1, if_pos rfl, w1, w2, if_pos (by omega)]; rfl)
   rw [if_neg h3]
   have w3 : wrap64 (((i + 1 : Nat) : Int) + 3) = ((i + 4 : Nat) : Int) := by rw [w64i (by omega) (by omega)]; omega
   have w4 : wrap64 ((b.length : Int) - ((i + 4 : Nat) : Int)) = (b.length : Int) - ((i + 4 : Nat) : Int) := w64i (by omega) (by omega)
   have y1 : ¬ (b.length : Int) - ((i + 1 : Nat) : Int) < 3 := by omega
   have y2 : ((i + 1 : Nat) : Int) ≤ ((i + 4 : Nat) : Int) := by omega
   have y3 : ((i + 4 : Nat) : Int) ≤ (b.length : Int) := by omega
   have y4 : ∀ n : Nat, t.length - 3 < n → (n : Int) > (b.length : Int) - ((i + 4 : Nat) : Int) := by intro n h; omega
   have y5 : ∀ n : Nat, ¬ t.length - 3 < n → ¬ (n : Int) > (b.length : Int) - ((i + 4 : Nat) : Int) ∧ ((i + 4 : Nat) : Int) ≤ ((i + 4 + n : Nat) : Int) ∧ ((i + 4 + n : Nat) : Int) ≤ (b.length : Int) ∧ b.length - (t.length - 3 - n) = i + 4 + n := by intro n h; omega
   have ho := byteOk_take hbt 3
   have hl' : (t.take 3).length = 3 := by rw [List.length_take]; omega
   have hgs := get_few (t.take 3) ho (by omega) (by omega)
   have hn0 := numL_nonneg ho
   obtain ⟨n, en⟩ := Int.eq_ofNat_of_zero_le hn0
   have hnb : n ≤ 16777215 := by
    have := num_lt (t.take 3).reverse (byteOk_reverse ho)
    rw [List.reverse_reverse, List.length_reverse, hl', en, show (2 : Int) ^ (8 * 3) = 16777216 from rfl] at this
    omega
   rw [en] at hgs ⊢
   have w5 : wrap64 (((i + 4 : Nat) : Int) + (n : Int)) = ((i + 4 + n : Nat) : Int) := by rw [w64i (by omega) (by omega)]; omega
   have mid : (b.take (i + 4)).drop (i + 1) = t.take 3 := by rw [show i + 4 = (i + 1) + 3 by omega, take_drop_mid, et1]
   have dr : b.drop (i + 4) = t.drop 3 := by rw [← et1, List.drop_drop]
   refine Ev.step (f := fun k => (bastilleref01_Get.f k (t.take 3)).bind fun g => if g.1 > (b.length : Int) - ((i + 4 : Nat) : Int) then some (0, 0, ([] : List Int), ([] : List S43), 0, 10) else (if 0 ≤ ((i + 4 : Nat) : Int) then (if ((i + 4 : Nat) : Int) ≤ wrap64 (((i + 4 : Nat) : Int) + g.1) then (if wrap64 (((i + 4 : Nat) : Int) + g.1) ≤ (b.length : Int) then some (2, 0, (b.take (wrap64 (((i + 4 : Nat) : Int) + g.1)).toNat).drop ((i + 4 : Nat) : Int).toNat, ([] : List S43), wrap64 (((i + 4 : Nat) : Int) + g.1), 0) else none) else none) else none)) (fun k => ?_) ?_
   ·rw [bastilleref02_Read.f, if_neg a1, if_pos a2, if_pos a3, ec, wc, if_neg h1, if_pos rfl, w1, w2, if_neg y1, w3, if_pos z1, if_pos y2, if_pos y3]
    simp only [Int.toNat_natCast, mid, w4]
   ·refine Ev.bind (Ev.fin 10 (fun k hk => rget _ ho k hk)) ?_
    rw [hgs]
    simp only [w5]
    rw [show (Int.toNat (n : Int)) = n from Int.toNat_natCast n]
    by_cases h4 : (t.drop 3).length < n
    ·rw [if_pos h4]
     rw [List.length_drop] at h4
     simp only [if_pos (y4 n h4)]
     exact Ev.now _
    ·rw [if_neg h4]
     rw [List.length_drop] at h4
     obtain ⟨q1, q2, q3, q4⟩ := y5 n h4
     simp only [if_neg q1, if_pos z4, if_pos q2, if_pos q3, Int.toNat_natCast, take_drop_mid, dr, Except.bind, rOut, List.length_drop]
     rw [q4]
     exact Ev.now _
  rw [if_neg h2]
  by_cases h3 : c = 3
  rotate_left
  ·rw [if_neg h3]
   exact Ev.some_ (fun k => by rw [bastilleref02_Read.f, if_neg a1, if_pos a2, if_pos a3, ec, wc, if_neg h1, if_neg h2, if_neg h3]; rfl)
  subst h3
  rw [if_pos rfl]
  have w2 : wrap64 ((b.length : Int) - ((i + 1 : Nat) : Int)) = (b.length : Int) - ((i + 1 : Nat) : Int) := w64i (by omega) (by omega)
  by_cases h5 : t.length < 2
  ·rw [if_pos h5]
   exact Ev.some_ (fun k => by rw [bastilleref02_Read.f, if_neg a1, if_pos a2, if_pos a3, ec, wc, if_neg h1, if_neg h2, if_pos rfl, w1, w2, if_pos (by omega)]; rfl)
  rw [if_neg h5]
  have w3 : wrap64 (((i + 1 : Nat) : Int) + 2) = ((i + 3 : Nat) : Int) := by rw [w64i (by omega) (by omega)]; omega
  have y1 : ¬ (b.length : Int) - ((i + 1 : Nat) : Int) < 2 := by omega
  have y2 : ((i + 1 : Nat) : Int) ≤ ((i + 3 : Nat) : Int) := by omega
  have y3 : ((i + 3 : Nat) : Int) ≤ (b.length : Int) := by omega
  have ho := byteOk_take hbt 2
  have hl' : (t.take 2).length = 2 := by rw [List.length_take]; omega
  have hgs := get_few (t.take 2) ho (by omega) (by omega)
  have hn0 := numL_nonneg ho
  obtain ⟨n, en⟩ := Int.eq_ofNat_of_zero_le hn0
  rw [en] at hgs ⊢
  rw [Int.toNat_natCast]
  have mid : (b.take (i + 3)).drop (i + 1) = t.take 2 := by rw [show i + 3 = (i + 1) + 2 by omega, take_drop_mid, et1]
  have dr : b.drop (i + 3) = t.drop 2 := by rw [← et1, List.drop_drop]
  have st : ∀ r, Ev (fun k => if (n : Int) > 4096 then bastilleref02_Read.j0 k b ((i + 3 : Nat) : Int) (d : Int) (n : Int) true else bastilleref02_Read.j0 k b ((i + 3 : Nat) : Int) (d : Int) (n : Int) ((d : Int) == 0)) r → Ev (fun k => bastilleref02_Read.f k b (i : Int) (d : Int)) r := by
   intro r hr
   refine Ev.step (f := fun k => (bastilleref01_Get.f k (t.take 2)).bind fun g => if g.1 > 4096 then bastilleref02_Read.j0 k b ((i + 3 : Nat) : Int) (d : Int) g.1 true else bastilleref02_Read.j0 k b ((i + 3 : Nat) : Int) (d : Int) g.1 ((d : Int) == 0)) (fun k => ?_) ?_
   ·rw [bastilleref02_Read.f, if_neg a1, if_pos a2, if_pos a3, ec, wc, if_neg h1, if_neg h2, if_pos rfl, w1, w2, if_neg y1, w3, if_pos z1, if_pos y2, if_pos y3]
    simp only [Int.toNat_natCast, mid]
   ·refine Ev.bind (Ev.fin 10 (fun k hk => rget _ ho k hk)) ?_
    rw [hgs]
    exact hr
  by_cases h6 : (n : Int) > 4096
  ·rw [if_pos h6]
   refine st _ ?_
   simp only [if_pos h6]
   exact Ev.some_ (fun k => by rw [bastilleref02_Read.j0, if_pos rfl]; rfl)
  rw [if_neg h6]
  by_cases hd0 : d = 0
  ·rw [hn hd0]
   refine st _ ?_
   simp only [if_neg h6]
   exact Ev.some_ (fun k => by rw [bastilleref02_Read.j0, if_pos (by rw [hd0]; rfl)]; rfl)
  obtain ⟨q, rfl⟩ : ∃ q, d = q + 1 := ⟨d - 1, by omega⟩
  obtain ⟨f, rfl, hv, hsf, hse⟩ := hs q rfl
  have hll := rlist_ev f q (by omega) b hb hl n (by omega) hv hsf hse n (i + 3) 0 [] (by omega) (by omega) rfl
  rw [dr] at hll
  refine st _ ?_
  simp only [if_neg h6]
  refine Ev.step (f := fun k => bastilleref02_Read.l0 k b ((i + 3 : Nat) : Int) ((q + 1 : Nat) : Int) (n : Int) ((0 : Nat) : Int) 3 0 []) (fun k => ?_) ?_
  ·rw [bastilleref02_Read.j0, if_neg (by simp; omega)]
   rfl
  ·cases hz : dList f n (t.drop 2) with
   | error e => rw [hz] at hll; exact hll
   | ok y =>
    obtain ⟨y, r⟩ := y
    rw [hz] at hll
    exact hll
theorem rread_ev (b : List Int) (hb : ByteOk b) (hl : b.length ≤ 2000000) : ∀ (d : Nat), d ≤ 16 → ∀ i, i ≤ b.length → Ev (fun k => bastilleref02_Read.f k b (i : Int) (d : Int)) (rOut b.length (dV d (b.drop i)))
 | 0, hd => rread_step 0 hd none (fun _ => rfl) b hb hl (fun q h => by omega)
 | d + 1, hd => rread_step (d + 1) hd (some (dV d)) (fun h => by omega) b hb hl (fun q h => by
   obtain rfl : q = d := by omega
   exact ⟨dV q, rfl, rread_ev b hb hl q (by omega), fun b v r hb h => ⟨_, (dV_ok q b v r hb h).1⟩, fun i e h => by
    obtain ⟨r, _, fv⟩ := value_ev q (by omega) (b.drop i) (byteOk_drop hb i) (by rw [List.length_drop]; omega)
    exact (fv.err e h).2⟩)
theorem rdecode_ev (b : List Int) (hb : ByteOk b) : Ev (fun k => bastilleref02_Decode.f k b) ((decT b).1.f0, (decT b).1.f1, (decT b).1.f2, (decT b).1.f3, (decT b).2) := by
 unfold bastilleref02_Decode.f decT
 by_cases hl : b.length > 1048576
 ·rw [if_pos hl]
  simp only [if_pos (show (b.length : Int) > 1048576 by omega)]
  exact Ev.now _
 ·rw [if_neg hl]
  simp only [if_neg (show ¬ (b.length : Int) > 1048576 by omega)]
  have hv := rread_ev b hb (by omega) 16 (by omega) 0 (by omega)
  rw [show b.drop 0 = b from rfl] at hv
  cases hx : dV 16 b with
  | error e =>
   obtain ⟨r, _, fv⟩ := value_ev 16 (by omega) b hb (by omega)
   have he := (fv.err e hx).2
   rw [hx] at hv
   refine Ev.bind (show Ev _ ((0 : Int), (0 : Int), ([] : List Int), ([] : List S43), (0 : Int), e) from hv) ?_
   simp only [if_neg he]
   exact Ev.now _
  | ok z =>
   obtain ⟨⟨f0, f1, f2, f3⟩, r⟩ := z
   have hp := (dV_ok 16 b _ r hb hx).1
   have hr : r.length ≤ b.length := by rw [hp, List.length_append]; omega
   rw [hx] at hv
   refine Ev.bind (show Ev _ (f0, f1, f2, f3, ((b.length - r.length : Nat) : Int), (0 : Int)) from hv) ?_
   simp only [if_true]
   cases r with
   | nil =>
    have h1 : ¬ ((b.length - ([] : List Int).length : Nat) : Int) < (b.length : Int) := by simp
    simp only [if_neg h1]
    exact Ev.now _
   | cons y s =>
    have h1 : ((b.length - (y :: s).length : Nat) : Int) < (b.length : Int) := by simp only [List.length_cons] at hr ⊢; omega
    simp only [if_pos h1]
    exact Ev.now _
theorem rkinds_l0 (a0 a1 : Int) (l2 : List Int) (l3 : List S43) (ks : List Int) (hl : l3.length = ks.length) (hm : ks.length ≤ 1000000) : ∀ (d i : Nat), i + d = ks.length →
  Ev (fun k => bastilleref28_Kinds.l0 k ks (i : Int) a0 a1 l2 l3) (kindsB (l3.drop i) (ks.drop i)) := by
 intro d
 induction d with
 | zero =>
  intro i h
  rw [show l3.drop i = [] from drop_end l3 i (by omega)]
  exact Ev.some_ (fun k => by rw [bastilleref28_Kinds.l0, if_neg (by omega)]; simp [kindsB])
 | succ d ih =>
  intro i h
  rw [kinds_step l3 ks i (by omega) (by omega)]
  by_cases he : (rd_T43 l3 (i : Int)).f0 = rd ks (i : Int)
  ·have hb : ((rd_T43 l3 (i : Int)).f0 == rd ks (i : Int)) = true := beq_iff_eq.2 he
   rw [hb, Bool.true_and]
   refine Ev.step (f := fun k => bastilleref28_Kinds.l0 k ks ((i + 1 : Nat) : Int) a0 a1 l2 l3) (fun k => ?_) (ih (i + 1) (by omega))
   rw [bastilleref28_Kinds.l0, if_pos (by omega), if_pos (by omega), if_pos (by omega), if_pos he, ix_next i (by omega)]
  ·have hb : ((rd_T43 l3 (i : Int)).f0 == rd ks (i : Int)) = false := beq_eq_false_iff_ne.2 he
   rw [hb, Bool.false_and]
   exact Ev.some_ (fun k => by rw [bastilleref28_Kinds.l0, if_pos (by omega), if_pos (by omega), if_pos (by omega), if_neg he])
theorem rkinds_ev (a0 a1 : Int) (l2 : List Int) (l3 : List S43) (ks : List Int) (hm : ks.length ≤ 1000000) : Ev (fun k => bastilleref28_Kinds.f k a0 a1 l2 l3 ks) (wantB a0 l3 ks) := by
 by_cases h0 : a0 = 3
 ·by_cases hl : l3.length = ks.length
  ·refine Ev.step (f := fun k => bastilleref28_Kinds.l0 k ks ((0 : Nat) : Int) a0 a1 l2 l3) (fun k => ?_) ?_
   ·rw [bastilleref28_Kinds.f, if_pos h0, bastilleref28_Kinds.j0, if_neg (by simp; omega)]
    rfl
   ·have h := rkinds_l0 a0 a1 l2 l3 ks hl hm ks.length 0 (by omega)
    simpa [wantB, h0, hl] using h
  ·refine Ev.some_ (fun k => ?_)
   rw [bastilleref28_Kinds.f, if_pos h0, bastilleref28_Kinds.j0, if_pos (by simp; omega)]
   simp [wantB, hl]
 ·refine Ev.some_ (fun k => ?_)
  rw [bastilleref28_Kinds.f, if_neg h0, bastilleref28_Kinds.j0, if_pos rfl]
  simp [wantB, h0]
theorem mayR_ev (c : Int × ByteArray × ByteArray × ByteArray × ByteArray × Int × Int × List Int) (hu : c.2.1.size ≤ 4611686018427387904) (hf : c.2.2.1.size ≤ 4611686018427387904) (hn : c.2.2.2.1.size ≤ 4611686018427387904) (ho : c.2.2.2.2.1.size ≤ 4611686018427387904) : Ev (fun k => mayR k c) (mayT8 c) := rmay_ev _ _ _ _ _ _ _ _ hu hf hn ho
theorem rread30_ev (b : List Int) (hb : ByteOk b) (hl : b.length ≤ 100000) : Ev (fun k => bastilleref30_Read.f k b) (readT b) := by
 unfold bastilleref30_Read.f readT
 refine Ev.bind (rdecode_ev b hb) ?_
 by_cases h0 : (decT b).2 = 0
 rotate_left
 ·simp only [if_neg h0]
  exact Ev.now _
 simp only [if_pos h0]
 refine Ev.bind (rkinds_ev _ _ _ _ [1, 2, 2, 2, 2, 1, 1, 2] (by decide)) ?_
 cases hw : wantB (decT b).1.f0 (decT b).1.f3 [1, 2, 2, 2, 2, 1, 1, 2] with
 | false => exact Ev.now _
 | true =>
  obtain ⟨h1, h2, h3, h4⟩ := decT_ok b hb h0
  have hs := small_of _ h3 (by rw [← h2]; exact hl)
  have hlen : (decT b).1.f3.length = 8 := by
   simp only [wantB, Bool.and_eq_true, decide_eq_true_eq] at hw
   exact hw.1.2
  simp only [if_true, if_pos hlen]
  have sz := rd_size (decT b).1 hs.ok
  refine Ev.bind (mayR_ev (rd8 (decT b).1.f3) ?_ ?_ ?_ ?_) ?_
  ·have := sz 1; show (strOfNums _).size ≤ _; omega
  ·have := sz 2; show (strOfNums _).size ≤ _; omega
  ·have := sz 3; show (strOfNums _).size ≤ _; omega
  ·have := sz 4; show (strOfNums _).size ≤ _; omega
  ·cases mayT8 (rd8 (decT b).1.f3) with
   | false => exact Ev.now _
   | true => exact Ev.now _
theorem bytes_str (l : List Int) (h : ByteOk l) : bytesOf (strOfNums l) = l := by
 unfold bytesOf
 rw [strOfNums_data, List.map_map]
 conv => rhs; rw [← List.map_id l]
 refine List.map_congr_left (fun x hx => ?_)
 have := h x hx
 simp only [Function.comp_apply, UInt8.toNat_ofNat', id]
 omega
theorem mem_bytesL (l : List S43) : ∀ x ∈ l, ∀ y ∈ bytesS x, y ∈ bytesL l := by
 induction l with
 | nil => simp
 | cons a t ih =>
  intro x hx y hy
  rcases List.mem_cons.1 hx with rfl | hx
  ·simp [bytesL, hy]
  ·simp only [bytesL, List.mem_append]
   exact Or.inr (ih x hx y hy)
def callOf (c : Int × ByteArray × ByteArray × ByteArray × ByteArray × Int × Int × List Int) : List S43 := row8 c.1 c.2.1 c.2.2.1 c.2.2.2.1 c.2.2.2.2.1 c.2.2.2.2.2.1 c.2.2.2.2.2.2.1 c.2.2.2.2.2.2.2
theorem one_of_pure (x : S43) (h0 : x.f0 = 1) (hp : pureS x = true) : x = ⟨1, x.f1, [], []⟩ := by
 obtain ⟨f0, f1, f2, f3⟩ := x
 simp only at h0
 subst h0
 simp [pureS] at hp
 simp [hp]
theorem two_of_pure (x : S43) (h0 : x.f0 = 2) (hp : pureS x = true) : x = ⟨2, 0, x.f2, []⟩ := by
 obtain ⟨f0, f1, f2, f3⟩ := x
 simp only at h0
 subst h0
 simp [pureS] at hp
 simp [hp]
theorem row8_rd8 (l : List S43) (hlen : l.length = 8) (hk : kindsB l [1, 2, 2, 2, 2, 1, 1, 2] = true) (hp : pureL l = true) (hb : ∀ x ∈ l, x.f0 = 2 → ByteOk x.f2) : callOf (rd8 l) = l := by
 match l, hlen with
 | [x0, x1, x2, x3, x4, x5, x6, x7], _ =>
  simp only [kindsB, Bool.and_true, Bool.and_eq_true, beq_iff_eq] at hk
  simp only [pureL, Bool.and_true, Bool.and_eq_true] at hp
  obtain ⟨k0, k1, k2, k3, k4, k5, k6, k7⟩ := hk
  obtain ⟨p0, p1, p2, p3, p4, p5, p6, p7⟩ := hp
  have b1 := hb x1 (by simp) k1
  have b2 := hb x2 (by simp) k2
  have b3 := hb x3 (by simp) k3
  have b4 := hb x4 (by simp) k4
  have e0 := one_of_pure x0 k0 p0
  have e1 := two_of_pure x1 k1 p1
  have e2 := two_of_pure x2 k2 p2
  have e3 := two_of_pure x3 k3 p3
  have e4 := two_of_pure x4 k4 p4
  have e5 := one_of_pure x5 k5 p5
  have e6 := one_of_pure x6 k6 p6
  have e7 := two_of_pure x7 k7 p7
  show [(⟨1, x0.f1, [], []⟩ : S43), ⟨2, 0, bytesOf (strOfNums x1.f2), []⟩, ⟨2, 0, bytesOf (strOfNums x2.f2), []⟩, ⟨2, 0, bytesOf (strOfNums x3.f2), []⟩, ⟨2, 0, bytesOf (strOfNums x4.f2), []⟩, ⟨1, x5.f1, [], []⟩, ⟨1, x6.f1, [], []⟩, ⟨2, 0, x7.f2, []⟩] = _
  rw [bytes_str _ b1, bytes_str _ b2, bytes_str _ b3, bytes_str _ b4, ← e0, ← e1, ← e2, ← e3, ← e4, ← e5, ← e6, ← e7]
theorem call_of_read (b : List Int) (hb : ByteOk b) (h0 : (decT b).2 = 0) (hw : wantB (decT b).1.f0 (decT b).1.f3 [1, 2, 2, 2, 2, 1, 1, 2] = true) : (⟨3, 0, [], callOf (rd8 (decT b).1.f3)⟩ : S43) = (decT b).1 := by
 obtain ⟨h1, h2, h3, h4⟩ := decT_ok b hb h0
 simp only [wantB, Bool.and_eq_true, decide_eq_true_eq] at hw
 obtain ⟨⟨hk, hlen⟩, hks⟩ := hw
 generalize (decT b).1 = v at *
 obtain ⟨f0, f1, f2, f3⟩ := v
 simp only at hk hlen hks ⊢
 subst hk
 simp only [pure3, Bool.and_eq_true, decide_eq_true_eq, List.isEmpty_iff] at h3
 obtain ⟨⟨⟨rfl, rfl⟩, _⟩, hpl⟩ := h3
 rw [row8_rd8 f3 hlen hks hpl]
 intro x hx hx2 y hy
 refine hb y ?_
 rw [h2, bytes3]
 refine List.mem_append_right _ (mem_bytesL f3 x hx y ?_)
 obtain ⟨g0, g1, g2, g3⟩ := x
 simp only at hx2 hy
 subst hx2
 rw [bytes2]
 exact List.mem_append_right _ hy
theorem CallReads : bastillelaw30_CallReads.Pure := by
 intro b h
 refine Ev.rounds (r := true) ?_
 unfold bastillelaw30_CallReads.f
 refine Ev.bind awake30_ev ?_
 simp only [if_true]
 by_cases hlen : (b.length : Int) > 2000
 ·simp only [if_pos hlen]
  exact Ev.now _
 simp only [if_neg hlen]
 have hb := byteOk_of h.2
 refine Ev.bind (read_ev b hb (by omega)) ?_
 refine Ev.bind (rread30_ev b hb (by omega)) ?_
 simp only [if_true]
 by_cases h0 : (decT b).2 = 0 ∧ wantB (decT b).1.f0 (decT b).1.f3 [1, 2, 2, 2, 2, 1, 1, 2] = true ∧ mayT8 (rd8 (decT b).1.f3) = true
 ·obtain ⟨h0, hw, hm⟩ := h0
  have hr : readT b = (rd8 (decT b).1.f3, 0) := by
   unfold readT
   rw [if_pos h0, if_pos hw, if_pos hm]
  obtain ⟨h1, h2, h3, h4⟩ := decT_ok b hb h0
  have hs := small_of _ h3 (by rw [← h2]; omega)
  have hv := call_of_read b hb h0 hw
  have sz := rd_size (decT b).1 hs.ok
  have l7 : (rd8 (decT b).1.f3).2.2.2.2.2.2.2.length ≤ 100000 := by
   have := sz 7
   rw [strOfNums_size] at this
   exact this
  rw [hr]
  refine Ev.bind (rsame30_ev _ _ _ _ _ _ _ _ _ _ _ _ _ _ _ _ l7) ?_
  rw [decide_eq_true (show sameC _ _ _ _ _ _ _ _ _ _ _ _ _ _ _ _ from ⟨rfl, rfl, rfl, rfl, rfl, rfl, rfl, rfl⟩)]
  simp only [if_true]
  refine Ev.bind (write_ev _ _ _ _ _ _ _ _ (sz 1) (sz 2) (sz 3) (sz 4) l7) ?_
  have hc : callS (rd8 (decT b).1.f3).1 (rd8 (decT b).1.f3).2.1 (rd8 (decT b).1.f3).2.2.1 (rd8 (decT b).1.f3).2.2.2.1 (rd8 (decT b).1.f3).2.2.2.2.1 (rd8 (decT b).1.f3).2.2.2.2.2.1 (rd8 (decT b).1.f3).2.2.2.2.2.2.1 (rd8 (decT b).1.f3).2.2.2.2.2.2.2 = (decT b).1 := hv
  rw [hc, if_pos (show mayB _ _ _ _ _ _ _ _ = true from hm), if_pos (show rightS (decT b).1 = true by simp only [rightS, Bool.and_eq_true, decide_eq_true_eq]; exact ⟨⟨h3, h4⟩, by rw [← h2]; exact h1⟩), ← h2]
  simp only [if_true]
  refine Ev.bind (Ev.fin (b.length + 1) (fun k hk => same_refl b (by omega) k hk)) ?_
  exact Ev.now _
 ·have hr : readT b = (zCall, 13) := by
   unfold readT
   by_cases a : (decT b).2 = 0
   ·rw [if_pos a]
    by_cases c : wantB (decT b).1.f0 (decT b).1.f3 [1, 2, 2, 2, 2, 1, 1, 2] = true
    ·rw [if_pos c, if_neg (fun d => h0 ⟨a, c, d⟩)]
    ·rw [if_neg c]
   ·rw [if_neg a]
  rw [hr]
  refine Ev.bind (rsame30_ev _ _ _ _ _ _ _ _ _ _ _ _ _ _ _ _ (by decide)) ?_
  rw [decide_eq_true (show sameC _ _ _ _ _ _ _ _ _ _ _ _ _ _ _ _ from ⟨rfl, rfl, rfl, rfl, rfl, rfl, rfl, rfl⟩)]
  simp only [if_true]
  refine Ev.bind (write_ev _ _ _ _ _ _ _ _ (by decide) (by decide) (by decide) (by decide) (by decide)) ?_
  simp only [if_neg (show ¬ (13 : Int) = 0 by decide)]
  exact Ev.now _
end Go.Proofs.YtiibnfnjfmcggaaDoor.Pure
