/- The plain law of the statement BoundCounts, for every input. -/
import Derived.Test.YtealjhngfhlpaaaPBoundCountsg
namespace Go.Proofs.Ytealjhngfhlpaaa.Pure
open Go.RowKit Go.Proofs.Ytealjhngfhlpaaa.PBoundCounts Go.Proofs.YtealjhngfhlpaaaW.PrintWords Go.Proofs.YtealjhngfhlpaaaW.PrintLast Go.Proofs.YtealjhngfhlpaaaW.PrintMore
set_option linter.unusedVariables false
set_option linter.unusedSimpArgs false

/-! ### loops, by 'from some number of rounds on' -/
theorem w64i {x : Int} (h0 : -9223372036854775808 ≤ x) (h1 : x ≤ 9223372036854775807) : wrap64 x = x := by unfold wrap64; omega
theorem w64w (a : Int) : wrap64 (wrap64 a) = wrap64 a := by unfold wrap64; omega
theorem w64l (a b : Int) : wrap64 (wrap64 a + b) = wrap64 (a + b) := by unfold wrap64; omega
theorem w64r (a b : Int) : wrap64 (a + wrap64 b) = wrap64 (a + b) := by unfold wrap64; omega
theorem w64mul (c a : Int) : wrap64 (c * wrap64 a) = wrap64 (c * a) := by
  have e : ∀ x : Int, wrap64 x = x - 18446744073709551616 * ((x + 9223372036854775808) / 18446744073709551616) := by intro x; unfold wrap64; omega
  rw [e a, Int.mul_sub, ← Int.mul_assoc, Int.mul_comm c 18446744073709551616, Int.mul_assoc]
  unfold wrap64
  omega
theorem w64lr (a b : Int) : wrap64 (wrap64 a + wrap64 b) = wrap64 (a + b) := by rw [w64l, w64r]
theorem ix_next (i : Nat) (h : (i : Int) < 9223372036854775807) : wrap64 ((i : Int) + 1) = ((i + 1 : Nat) : Int) := by rw [w64i (by omega) (by omega)]; omega
theorem Ev.some_ {α : Type} {g : Nat → Option α} {r : α} (h : ∀ k, g (k + 1) = some r) : Ev g r := Ev.step h (Ev.now r)
def tot {α : Type} (f : α → Int) : List α → Int
  | [] => 0
  | x :: t => f x + tot f t
theorem getD_drop {α : Type} (l : List α) (z : α) (i : Nat) (h : i < l.length) : l.drop i = l.getD (i : Int).toNat z :: l.drop (i + 1) := by
  rw [List.drop_eq_getElem_cons h, show (i : Int).toNat = i by omega]
  congr 1
  simp [List.getD, List.getElem?_eq_getElem h]
theorem drop_end {α : Type} (l : List α) (i : Nat) (h : i = l.length) : l.drop i = [] := List.drop_of_length_le (by omega)

def one1 (f : S45) : Int := f.f4.length + f.f5.length + f.f6.length
def vers (x : S108) : Int := x.f1.length
def one2 (f : S45) : Int := f.f2.length + f.f3.length + tot vers f.f4
theorem p65 (acc a b c : Int) : wrap64 (wrap64 acc + wrap64 (wrap64 (a + b) + c)) = wrap64 (acc + (a + b + c)) := by unfold wrap64; omega
theorem pS (acc a b c : Int) : wrap64 (wrap64 (wrap64 (wrap64 (wrap64 acc + 1) + a) + b) + c) = wrap64 (acc + 1 + (a + b + c)) := by unfold wrap64; omega
theorem pL (acc a b : Int) : wrap64 (wrap64 (wrap64 acc + a) + b) = wrap64 (acc + a + b) := by unfold wrap64; omega
theorem pC (a b c d e : Int) : wrap64 (wrap64 (wrap64 (wrap64 (a + wrap64 b) + c) + d) + wrap64 (0 + e)) = wrap64 (a + b + c + d + e) := by unfold wrap64; omega
theorem sum65 (F : List S45) (hm : F.length ≤ 9223372036854775807) : ∀ (d i : Nat) (acc : Int), i + d = F.length →
    Ev (fun k => bound_sum_at_65.l0 k (wrap64 acc) F (F.length : Int) (i : Int)) (wrap64 (acc + tot one1 (F.drop i))) := by
  intro d
  induction d with
  | zero =>
    intro i acc h
    refine Ev.some_ fun k => ?_
    simp only [bound_sum_at_65.l0]
    rw [if_neg (by omega), drop_end F i (by omega)]
    simp [tot]
  | succ d ih =>
    intro i acc h
    have := ih (i + 1) (acc + one1 (rd_T45 F i)) (by omega)
    refine Ev.step (f := fun k => bound_sum_at_65.l0 k (wrap64 (acc + one1 (rd_T45 F i))) F (F.length : Int) ((i + 1 : Nat) : Int)) (fun k => ?_) ?_
    · simp only [bound_sum_at_65.l0]
      rw [if_pos (by omega), if_pos (by omega), if_pos (by omega)]
      simp only [bound_Count_1.f, Option.bind_some]
      rw [ix_next i (by omega)]
      rw [p65]
      rfl
    · rw [getD_drop F z45 i (by omega)]
      simp only [tot]
      rw [← Int.add_assoc]
      exact this
theorem count2 (I : List S108) (hm : I.length ≤ 9223372036854775807) : ∀ (d i : Nat) (acc : Int), i + d = I.length →
    Ev (fun k => bound_Count_2.l0 k (wrap64 acc) I (I.length : Int) (i : Int)) (wrap64 (acc + tot vers (I.drop i))) := by
  intro d
  induction d with
  | zero =>
    intro i acc h
    refine Ev.some_ fun k => ?_
    simp only [bound_Count_2.l0]
    rw [if_neg (by omega), drop_end I i (by omega)]
    simp [tot]
  | succ d ih =>
    intro i acc h
    have := ih (i + 1) (acc + vers (rd_T108 I i)) (by omega)
    refine Ev.step (f := fun k => bound_Count_2.l0 k (wrap64 (acc + vers (rd_T108 I i))) I (I.length : Int) ((i + 1 : Nat) : Int)) (fun k => ?_) ?_
    · simp only [bound_Count_2.l0]
      rw [if_pos (by omega), if_pos (by omega), if_pos (by omega), ix_next i (by omega), w64l]
      rfl
    · rw [getD_drop I z108 i (by omega)]
      simp only [tot]
      rw [← Int.add_assoc]
      exact this
theorem count2f (f : S45) (hm : f.f4.length ≤ 9223372036854775807) : Ev (fun k => bound_Count_2.f k f.f0 f.f1 f.f2 f.f3 f.f4 f.f5 f.f6) (wrap64 (one2 f)) := by
  have := count2 f.f4 hm f.f4.length 0 ((f.f2.length : Int) + f.f3.length) (by omega)
  exact this
theorem sum66 (F : List S45) (hm : F.length ≤ 9223372036854775807) (hF : ∀ x ∈ F, g45 x) : ∀ (d i : Nat) (acc : Int), i + d = F.length →
    Ev (fun k => bound_sum_at_66.l0 k (wrap64 acc) F (F.length : Int) (i : Int)) (wrap64 (acc + tot one2 (F.drop i))) := by
  intro d
  induction d with
  | zero =>
    intro i acc h
    refine Ev.some_ fun k => ?_
    simp only [bound_sum_at_66.l0]
    rw [if_neg (by omega), drop_end F i (by omega)]
    simp [tot]
  | succ d ih =>
    intro i acc h
    have := ih (i + 1) (acc + one2 (rd_T45 F i)) (by omega)
    have hx : rd_T45 F i ∈ F := by
      have := List.mem_of_mem_drop (i := i) (l := F) (a := rd_T45 F i) (by rw [getD_drop F z45 i (by omega)]; exact List.mem_cons_self)
      exact this
    have hg := (hF _ hx).2.2.2.2.1.1
    refine Ev.step (f := fun k => (bound_Count_2.f k (rd_T45 F i).f0 (rd_T45 F i).f1 (rd_T45 F i).f2 (rd_T45 F i).f3 (rd_T45 F i).f4 (rd_T45 F i).f5 (rd_T45 F i).f6).bind fun t => bound_sum_at_66.l0 k (wrap64 (wrap64 acc + t)) F (F.length : Int) ((i + 1 : Nat) : Int)) (fun k => ?_) ?_
    · simp only [bound_sum_at_66.l0]
      rw [if_pos (by omega), if_pos (by omega), if_pos (by omega), ix_next i (by omega)]
    · refine Ev.bind (count2f (rd_T45 F i) (by unfold maxLen at hg; omega)) ?_
      rw [getD_drop F z45 i (by omega)]
      simp only [tot, w64lr]
      rw [← Int.add_assoc]
      exact this
def smallS (U : List S101) (D : List S103) (F : List S45) : Int := mn (F.length : Int) 1 + 2 * U.length + D.length + F.length + tot one1 F
def largeS (F : List S45) : Int := tot one2 F
theorem count_ev (a : Int) (U : List S101) (D : List S103) (F : List S45) (hm : F.length ≤ 9223372036854775807) (hF : ∀ x ∈ F, g45 x) :
    Ev (fun k => bound_Count.f k a U D F) (wrap64 (smallS U D F), wrap64 (largeS F)) := by
  have h1 := sum65 F hm F.length 0 0 (by omega)
  have h2 := sum66 F hm hF F.length 0 0 (by omega)
  have e0 : wrap64 0 = 0 := w64i (by omega) (by omega)
  rw [e0] at h1 h2
  unfold bound_Count.f bound_sum_at_65.f bound_sum_at_66.f
  refine Ev.bind h1 (Ev.bind h2 ?_)
  have e : wrap64 (wrap64 (wrap64 (wrap64 (mn (↑F.length) 1 + wrap64 (2 * ↑U.length)) + ↑D.length) + ↑F.length) + wrap64 (0 + tot one1 (List.drop 0 F))) = wrap64 (smallS U D F) := by
    rw [List.drop_zero, pC]
    rfl
  rw [e, List.drop_zero, Int.zero_add]
  exact Ev.now _
theorem small_l0 (a : Int) (U : List S101) (D : List S103) (F : List S45) (hm : F.length ≤ 9223372036854775807) : ∀ (d i : Nat) (acc : Int), i + d = F.length →
    Ev (fun k => bastilleref33_Small.l0 k (wrap64 acc) (i : Int) a U D F) (wrap64 (acc + d + tot one1 (F.drop i))) := by
  intro d
  induction d with
  | zero =>
    intro i acc h
    refine Ev.some_ fun k => ?_
    simp only [bastilleref33_Small.l0]
    rw [if_neg (by omega), drop_end F i (by omega)]
    simp [tot]
  | succ d ih =>
    intro i acc h
    have := ih (i + 1) (acc + 1 + one1 (rd_T45 F i)) (by omega)
    refine Ev.step (f := fun k => bastilleref33_Small.l0 k (wrap64 (acc + 1 + one1 (rd_T45 F i))) ((i + 1 : Nat) : Int) a U D F) (fun k => ?_) ?_
    · simp only [bastilleref33_Small.l0]
      rw [if_pos (by omega), if_pos (by omega), ix_next i (by omega)]
      rw [pS]
      rfl
    · rw [getD_drop F z45 i (by omega)]
      simp only [tot]
      rw [show acc + ((d + 1 : Nat) : Int) + (one1 (List.getD F (i : Int).toNat z45) + tot one1 (List.drop (i + 1) F)) = acc + 1 + one1 (rd_T45 F i) + d + tot one1 (List.drop (i + 1) F) by unfold rd_T45; omega]
      exact this
theorem small_ev (a : Int) (U : List S101) (D : List S103) (F : List S45) (hm : F.length ≤ 9223372036854775807) : Ev (fun k => bastilleref33_Small.f k a U D F) (wrap64 (smallS U D F)) := by
  unfold bastilleref33_Small.f
  have hj : ∀ acc, Ev (fun k => bastilleref33_Small.j0 k (wrap64 acc) a U D F) (wrap64 (acc + F.length + tot one1 F)) := by
    intro acc
    refine Ev.step (fun k => by simp only [bastilleref33_Small.j0]; rfl) ?_
    have := small_l0 a U D F hm F.length 0 acc (by omega)
    rw [List.drop_zero] at this
    exact this
  by_cases h : (F.length : Int) > 0
  · simp only [if_pos h]
    have := hj (2 * (U.length : Int) + D.length + 1)
    rw [show 2 * (U.length : Int) + D.length + 1 + F.length + tot one1 F = smallS U D F by unfold smallS mn; split <;> omega] at this
    rw [show wrap64 (wrap64 (wrap64 (2 * ↑U.length) + ↑D.length) + 1) = wrap64 (2 * (U.length : Int) + D.length + 1) by unfold wrap64; omega]
    exact this
  · simp only [if_neg h]
    have := hj (2 * (U.length : Int) + D.length)
    rw [show 2 * (U.length : Int) + D.length + F.length + tot one1 F = smallS U D F by unfold smallS mn; split <;> omega] at this
    rw [show wrap64 (wrap64 (2 * ↑U.length) + ↑D.length) = wrap64 (2 * (U.length : Int) + D.length) by unfold wrap64; omega]
    exact this
theorem large_l1 (a : Int) (U : List S101) (D : List S103) (F : List S45) (f : S45) (hm : f.f4.length ≤ 9223372036854775807) (n : Int) (r : Int) : ∀ (d i : Nat) (acc : Int), i + d = f.f4.length →
    Ev (fun k => bastilleref33_Large.l0 k (wrap64 (acc + tot vers (f.f4.drop i))) (wrap64 (n + 1)) a U D F) r →
    Ev (fun k => bastilleref33_Large.l1 k (wrap64 acc) n (i : Int) a U D F f.f0 f.f1 f.f2 f.f3 f.f4 f.f5 f.f6) r := by
  intro d
  induction d with
  | zero =>
    intro i acc h hn
    rw [drop_end f.f4 i (by omega)] at hn
    refine Ev.step (fun k => ?_) hn
    simp only [bastilleref33_Large.l1]
    rw [if_neg (by omega)]
    simp [tot]
  | succ d ih =>
    intro i acc h hn
    rw [getD_drop f.f4 z108 i (by omega)] at hn
    simp only [tot] at hn
    rw [← Int.add_assoc] at hn
    refine Ev.step (fun k => ?_) (ih (i + 1) (acc + vers (f.f4.getD (i : Int).toNat z108)) (by omega) hn)
    simp only [bastilleref33_Large.l1]
    rw [if_pos (by omega), if_pos (by omega), ix_next i (by omega), w64l]
    rfl
theorem memD {α : Type} (l : List α) (z : α) (i : Nat) (h : i < l.length) : l.getD (i : Int).toNat z ∈ l := by
  have := List.mem_of_mem_drop (i := i) (l := l) (a := l.getD (i : Int).toNat z) (by rw [getD_drop l z i h]; exact List.mem_cons_self)
  exact this
theorem large_l0 (a : Int) (U : List S101) (D : List S103) (F : List S45) (hm : F.length ≤ 9223372036854775807) (hF : ∀ x ∈ F, g45 x) : ∀ (d i : Nat) (acc : Int), i + d = F.length →
    Ev (fun k => bastilleref33_Large.l0 k (wrap64 acc) (i : Int) a U D F) (wrap64 (acc + tot one2 (F.drop i))) := by
  intro d
  induction d with
  | zero =>
    intro i acc h
    refine Ev.some_ fun k => ?_
    simp only [bastilleref33_Large.l0]
    rw [if_neg (by omega), drop_end F i (by omega)]
    simp [tot]
  | succ d ih =>
    intro i acc h
    have hx := memD F z45 i (by omega)
    have hg := (hF _ hx).2.2.2.2.1.1
    rw [getD_drop F z45 i (by omega)]
    simp only [tot]
    rw [← Int.add_assoc]
    have h1 := ih (i + 1) (acc + one2 (F.getD (i : Int).toNat z45)) (by omega)
    refine Ev.step (fun k => ?_) (large_l1 a U D F (F.getD (i : Int).toNat z45) (by unfold maxLen at hg; omega) (i : Int) _ (F.getD (i : Int).toNat z45).f4.length 0 (acc + (F.getD (i : Int).toNat z45).f2.length + (F.getD (i : Int).toNat z45).f3.length) (by omega) ?_)
    · simp only [bastilleref33_Large.l0]
      rw [if_pos (by omega), if_pos (by omega)]
      rw [pL]
      rfl
    · rw [List.drop_zero, ix_next i (by omega)]
      rw [show acc + ↑(F.getD (↑i : Int).toNat z45).f2.length + ↑(F.getD (↑i : Int).toNat z45).f3.length + tot vers (F.getD (↑i : Int).toNat z45).f4 = acc + one2 (F.getD (↑i : Int).toNat z45) by unfold one2; omega]
      exact h1
theorem large_ev (a : Int) (U : List S101) (D : List S103) (F : List S45) (hm : F.length ≤ 9223372036854775807) (hF : ∀ x ∈ F, g45 x) : Ev (fun k => bastilleref33_Large.f k a U D F) (wrap64 (largeS F)) := by
  have := large_l0 a U D F hm hF F.length 0 0 (by omega)
  rw [show wrap64 0 = 0 from w64i (by omega) (by omega), List.drop_zero, Int.zero_add] at this
  exact this
theorem bytes_ev (a : Int) (U : List S101) (D : List S103) (F : List S45) (hm : F.length ≤ 9223372036854775807) (hF : ∀ x ∈ F, g45 x) :
    Ev (fun k => bound_Bytes.f k a U D F) (wrap64 (120 * smallS U D F + 1020 * largeS F)) := by
  unfold bound_Bytes.f
  refine Ev.bind (count_ev a U D F hm hF) ?_
  show Ev (fun _ => some (wrap64 (wrap64 (120 * wrap64 (smallS U D F)) + wrap64 (1020 * wrap64 (largeS F))))) _
  rw [w64mul, w64mul, w64lr]
  exact Ev.now _
theorem homes_ev (a : Int) (U : List S101) (D : List S103) (F : List S45) (hm : F.length ≤ 9223372036854775807) (hF : ∀ x ∈ F, g45 x) :
    Ev (fun k => bound_Homes.f k a U D F) (wrap64 (3 * smallS U D F + 18 * largeS F)) := by
  unfold bound_Homes.f
  rw [show bound_takes.f 120 = some 3 by decide +kernel, show bound_takes.f 1020 = some 18 by decide +kernel]
  refine Ev.bind (count_ev a U D F hm hF) ?_
  show Ev (fun _ => some (wrap64 (wrap64 (3 * wrap64 (smallS U D F)) + wrap64 (18 * wrap64 (largeS F))))) _
  rw [w64mul, w64mul, w64lr]
  exact Ev.now _
def fitsS (B H q r : Int) : Int := if B > q then 33 else if H > r then 32 else 0
theorem Ev.ite_ {α : Type} {c : Prop} [Decidable c] {g f : Nat → Option α} {r s : α} (h1 : c → Ev g r) (h2 : ¬ c → Ev f s) : Ev (fun k => if c then g k else f k) (if c then r else s) := by
  by_cases h : c
  · simp only [if_pos h]; exact h1 h
  · simp only [if_neg h]; exact h2 h
theorem fits_ev (a : Int) (U : List S101) (D : List S103) (F : List S45) (hm : F.length ≤ 9223372036854775807) (hF : ∀ x ∈ F, g45 x) (q r : Int) :
    Ev (fun k => bound_Fits.f k a U D F q r) (fitsS (wrap64 (120 * smallS U D F + 1020 * largeS F)) (wrap64 (3 * smallS U D F + 18 * largeS F)) q r) := by
  unfold bound_Fits.f fitsS
  refine Ev.bind (bytes_ev a U D F hm hF) (Ev.ite_ (fun _ => Ev.now _) (fun _ => Ev.bind (homes_ev a U D F hm hF) ?_))
  exact Ev.ite_ (fun _ => Ev.now _) (fun _ => Ev.now _)
theorem rfits_ev (a : Int) (U : List S101) (D : List S103) (F : List S45) (hm : F.length ≤ 9223372036854775807) (hF : ∀ x ∈ F, g45 x) (q r : Int) :
    Ev (fun k => bastilleref33_Fits.f k a U D F q r) (fitsS (wrap64 (120 * smallS U D F + 1020 * largeS F)) (wrap64 (3 * smallS U D F + 18 * largeS F)) q r) := by
  unfold bastilleref33_Fits.f fitsS
  refine Ev.bind (small_ev a U D F hm) (Ev.bind (large_ev a U D F hm hF) ?_)
  rw [w64mul, w64mul, w64lr]
  refine Ev.ite_ (fun _ => Ev.now _) (fun _ => Ev.bind (small_ev a U D F hm) (Ev.bind (large_ev a U D F hm hF) ?_))
  rw [w64mul, w64mul, w64lr]
  exact Ev.ite_ (fun _ => Ev.now _) (fun _ => Ev.now _)
/-! the bound on what is tried: it comes to an answer -/
theorem loop_total {β : Type} (n : Nat) (g : Nat → Int → Int → Option β) (step : ∀ (i : Nat) x, i < n → (∀ x', ∃ b, Ev (fun k => g k x' ((i + 1 : Nat) : Int)) b) → ∃ b, Ev (fun k => g k x (i : Int)) b)
    (fin : ∀ x, ∃ b, Ev (fun k => g k x (n : Int)) b) : ∀ (d i : Nat) (x : Int), i + d = n → ∃ b, Ev (fun k => g k x (i : Int)) b := by
  intro d
  induction d with
  | zero => intro i x h; rw [show i = n by omega]; exact fin x
  | succ d ih => intro i x h; exact step i x (by omega) (fun x' => ih (i + 1) x' (by omega))
theorem evs {β : Type} {g f : Nat → Option β} (h : ∀ k, g (k + 1) = f k) (k : ∃ b, Ev f b) : ∃ b, Ev g b := by
  obtain ⟨b, hb⟩ := k
  exact ⟨b, Ev.step h hb⟩
theorem loop0 {β : Type} (n : Nat) (g : Nat → Int → Int → Option β) (step : ∀ (i : Nat) x, i < n → (∀ x', ∃ b, Ev (fun k => g k x' ((i + 1 : Nat) : Int)) b) → ∃ b, Ev (fun k => g k x (i : Int)) b)
    (fin : ∀ x, ∃ b, Ev (fun k => g k x (n : Int)) b) (x : Int) : ∃ b, Ev (fun k => g k x 0) b := loop_total n g step fin n 0 x (by omega)
section
variable (a : ByteArray) (u : Int) (M : List S113) (E : List S116) (I : List S108) (Wr : List S137) (L : List S139)
theorem nm6 (hL : L.length ≤ 9223372036854775807) (x : Int) : ∃ b, Ev (fun k => bastillelaw32_names.l6 k x L (L.length : Int) 0) b := by
  refine loop0 L.length (fun k x i => bastillelaw32_names.l6 k x L (L.length : Int) i) (fun i x hi hn => ?_) (fun x => ?_) x
  · refine evs (fun k => ?_) (hn (mx x (((rd_T139 L i).f1).size : Int)))
    simp only [bastillelaw32_names.l6]
    rw [if_pos (by omega), if_pos (by omega), if_pos (by omega), ix_next i (by omega)]
  · exact ⟨_, Ev.some_ (fun k => by simp only [bastillelaw32_names.l6]; rw [if_neg (by omega)])⟩
theorem nm5 (hW : Wr.length ≤ 9223372036854775807) (hL : L.length ≤ 9223372036854775807) (x : Int) : ∃ b, Ev (fun k => bastillelaw32_names.l5 k x Wr (Wr.length : Int) 0 a u M E I Wr L) b := by
  refine loop0 Wr.length (fun k x i => bastillelaw32_names.l5 k x Wr (Wr.length : Int) i a u M E I Wr L) (fun i x hi hn => ?_) (fun x => ?_) x
  · refine evs (fun k => ?_) (hn (mx x (((rd_T137 Wr i).f0).size : Int)))
    simp only [bastillelaw32_names.l5]
    rw [if_pos (by omega), if_pos (by omega), if_pos (by omega), ix_next i (by omega)]
  · exact evs (fun k => by simp only [bastillelaw32_names.l5]; rw [if_neg (by omega)]) (nm6 L hL x)
theorem nm4 (hI : I.length ≤ 9223372036854775807) (hW : Wr.length ≤ 9223372036854775807) (hL : L.length ≤ 9223372036854775807) (x : Int) : ∃ b, Ev (fun k => bastillelaw32_names.l4 k x I (I.length : Int) 0 a u M E I Wr L) b := by
  refine loop0 I.length (fun k x i => bastillelaw32_names.l4 k x I (I.length : Int) i a u M E I Wr L) (fun i x hi hn => ?_) (fun x => ?_) x
  · refine evs (fun k => ?_) (hn (mx (mx x (((rd_T108 I i).f0).size : Int)) (((rd_T108 I i).f1).length : Int)))
    simp only [bastillelaw32_names.l4]
    rw [if_pos (by omega), if_pos (by omega), if_pos (by omega), ix_next i (by omega)]
  · exact evs (fun k => by simp only [bastillelaw32_names.l4]; rw [if_neg (by omega)]) (nm5 a u M E I Wr L hW hL x)
theorem nm3 (C : List S135) (hC : C.length ≤ 9223372036854775807) (n m : Int) (hnext : ∀ x, ∃ b, Ev (fun k => bastillelaw32_names.l2 k x E n (wrap64 (m + 1)) a u M E I Wr L) b) (x : Int) :
    ∃ b, Ev (fun k => bastillelaw32_names.l3 k x E n m C (C.length : Int) 0 a u M E I Wr L) b := by
  refine loop0 C.length (fun k x i => bastillelaw32_names.l3 k x E n m C (C.length : Int) i a u M E I Wr L) (fun i x hi hn => ?_) (fun x => ?_) x
  · refine evs (fun k => ?_) (hn (mx x (((rd_T135 C i).f0).size : Int)))
    simp only [bastillelaw32_names.l3]
    rw [if_pos (by omega), if_pos (by omega), if_pos (by omega), ix_next i (by omega)]
  · exact evs (fun k => by simp only [bastillelaw32_names.l3]; rw [if_neg (by omega)]) (hnext x)
theorem nm2 (hE : E.length ≤ 9223372036854775807) (hEg : ∀ e ∈ E, g116 e) (hI : I.length ≤ 9223372036854775807) (hW : Wr.length ≤ 9223372036854775807) (hL : L.length ≤ 9223372036854775807) (x : Int) : ∃ b, Ev (fun k => bastillelaw32_names.l2 k x E (E.length : Int) 0 a u M E I Wr L) b := by
  refine loop0 E.length (fun k x i => bastillelaw32_names.l2 k x E (E.length : Int) i a u M E I Wr L) (fun i x hi hn => ?_) (fun x => ?_) x
  · have hg := (hEg _ (memD E z116 i hi)).2.2.2.1.1
    refine evs (fun k => ?_) (nm3 a u M E I Wr L (rd_T116 E i).f3 hg (E.length : Int) (i : Int) (fun x' => by rw [ix_next i (by omega)]; exact hn x') (mx x (((rd_T116 E i).f3).length : Int)))
    simp only [bastillelaw32_names.l2]
    rw [if_pos (by omega), if_pos (by omega), if_pos (by omega)]
  · exact evs (fun k => by simp only [bastillelaw32_names.l2]; rw [if_neg (by omega)]) (nm4 a u M E I Wr L hI hW hL x)
theorem nm1 (C : List S133) (hC : C.length ≤ 9223372036854775807) (n m : Int) (hnext : ∀ x, ∃ b, Ev (fun k => bastillelaw32_names.l0 k x M n (wrap64 (m + 1)) a u M E I Wr L) b) (x : Int) :
    ∃ b, Ev (fun k => bastillelaw32_names.l1 k x M n m C (C.length : Int) 0 a u M E I Wr L) b := by
  refine loop0 C.length (fun k x i => bastillelaw32_names.l1 k x M n m C (C.length : Int) i a u M E I Wr L) (fun i x hi hn => ?_) (fun x => ?_) x
  · refine evs (fun k => ?_) (hn (mx x (((rd_T133 C i).f0).size : Int)))
    simp only [bastillelaw32_names.l1]
    rw [if_pos (by omega), if_pos (by omega), if_pos (by omega), ix_next i (by omega)]
  · exact evs (fun k => by simp only [bastillelaw32_names.l1]; rw [if_neg (by omega)]) (hnext x)
theorem nm0 (hM : M.length ≤ 9223372036854775807) (hMg : ∀ e ∈ M, g113 e) (hE : E.length ≤ 9223372036854775807) (hEg : ∀ e ∈ E, g116 e) (hI : I.length ≤ 9223372036854775807) (hW : Wr.length ≤ 9223372036854775807) (hL : L.length ≤ 9223372036854775807) (x : Int) :
    ∃ b, Ev (fun k => bastillelaw32_names.l0 k x M (M.length : Int) 0 a u M E I Wr L) b := by
  refine loop0 M.length (fun k x i => bastillelaw32_names.l0 k x M (M.length : Int) i a u M E I Wr L) (fun i x hi hn => ?_) (fun x => ?_) x
  · have hg := (hMg _ (memD M z113 i hi)).2.2.2.2.1.1
    refine evs (fun k => ?_) (nm1 a u M E I Wr L (rd_T113 M i).f4 hg (M.length : Int) (i : Int) (fun x' => by rw [ix_next i (by omega)]; exact hn x') (mx (mx x (((rd_T113 M i).f3).size : Int)) (((rd_T113 M i).f4).length : Int)))
    simp only [bastillelaw32_names.l0]
    rw [if_pos (by omega), if_pos (by omega), if_pos (by omega)]
  · exact evs (fun k => by simp only [bastillelaw32_names.l0]; rw [if_neg (by omega)]) (nm2 a u M E I Wr L hE hEg hI hW hL x)
end
theorem names_total (f : S45) (h : g45 f) : ∃ b, Ev (fun k => bastillelaw32_names.f k f.f0 f.f1 f.f2 f.f3 f.f4 f.f5 f.f6) b := by
  obtain ⟨_, _, h2, h3, h4, h5, h6⟩ := h
  exact nm0 f.f0 f.f1 f.f2 f.f3 f.f4 f.f5 f.f6 h2.1 h2.2 h3.1 h3.2 h4.1 h5.1 h6.1 _
theorem few2 (F : List S45) (hm : F.length ≤ 9223372036854775807) (hF : ∀ x ∈ F, g45 x) (x : Int) : ∃ b, Ev (fun k => bastillelaw32_Few.l2 k x F (F.length : Int) 0) b := by
  refine loop0 F.length (fun k x i => bastillelaw32_Few.l2 k x F (F.length : Int) i) (fun i x hi hn => ?_) (fun x => ?_) x
  · obtain ⟨b1, hb1⟩ := names_total _ (hF _ (memD F z45 i hi))
    have key : ∀ y : Int, ∃ b, Ev (fun k => if y > 100 then (some false) else ((bastillelaw32_names.f k ((rd_T45 F i).f0) ((rd_T45 F i).f1) ((rd_T45 F i).f2) ((rd_T45 F i).f3) ((rd_T45 F i).f4) ((rd_T45 F i).f5) ((rd_T45 F i).f6)).bind fun t159 => (if t159 = true then (bastillelaw32_Few.l2 k y F (F.length : Int) ((i + 1 : Nat) : Int)) else (some false)))) b := by
      intro y
      obtain ⟨b2, hb2⟩ := hn y
      exact ⟨_, Ev.ite_ (fun _ => Ev.now _) (fun _ => Ev.bind hb1 (Ev.ite_ (fun _ => hb2) (fun _ => Ev.now _)))⟩
    refine evs (fun k => ?_) (key (wrap64 ((wrap64 ((wrap64 ((wrap64 ((wrap64 (x + (((rd_T45 F i).f2).length : Int))) + (((rd_T45 F i).f3).length : Int))) + (((rd_T45 F i).f4).length : Int))) + (((rd_T45 F i).f5).length : Int))) + (((rd_T45 F i).f6).length : Int))))
    simp only [bastillelaw32_Few.l2]
    rw [if_pos (by omega), if_pos (by omega), if_pos (by omega), ix_next i (by omega)]
  · exact ⟨_, Ev.some_ (fun k => by simp only [bastillelaw32_Few.l2]; rw [if_neg (by omega)])⟩
theorem few1 (a : Int) (U : List S101) (D : List S103) (F : List S45) (hD : D.length ≤ 9223372036854775807) (hm : F.length ≤ 9223372036854775807) (hF : ∀ x ∈ F, g45 x) (x : Int) : ∃ b, Ev (fun k => bastillelaw32_Few.l1 k x D (D.length : Int) 0 a U D F) b := by
  refine loop0 D.length (fun k x i => bastillelaw32_Few.l1 k x D (D.length : Int) i a U D F) (fun i x hi hn => ?_) (fun x => ?_) x
  · obtain ⟨b, hb⟩ := hn x
    refine evs (fun k => ?_) ⟨_, Ev.ite_ (c := (((rd_T103 D i).f0).size : Int) > 20) (fun _ => Ev.now false) (fun _ => Ev.ite_ (c := (((rd_T103 D i).f1).size : Int) > 20) (fun _ => Ev.now false) (fun _ => hb))⟩
    simp only [bastillelaw32_Few.l1]
    rw [if_pos (by omega), if_pos (by omega), if_pos (by omega), ix_next i (by omega)]
  · obtain ⟨b, hb⟩ := few2 F hm hF x
    exact evs (fun k => by simp only [bastillelaw32_Few.l1]; rw [if_neg (by omega)]) ⟨_, Ev.ite_ (c := (F.length : Int) > 8) (fun _ => Ev.now false) (fun _ => hb)⟩
theorem few_total (a : Int) (U : List S101) (D : List S103) (F : List S45) (hU : U.length ≤ 9223372036854775807) (hD : D.length ≤ 9223372036854775807) (hm : F.length ≤ 9223372036854775807) (hF : ∀ x ∈ F, g45 x) : ∃ b, Ev (fun k => bastillelaw32_Few.f k a U D F) b := by
  unfold bastillelaw32_Few.f
  generalize wrap64 ((U.length : Int) + (D.length : Int)) = x
  refine loop0 U.length (fun k x i => bastillelaw32_Few.l0 k x U (U.length : Int) i a U D F) (fun i x hi hn => ?_) (fun x => ?_) x
  · obtain ⟨b, hb⟩ := hn x
    refine evs (fun k => ?_) ⟨_, Ev.ite_ (c := (((rd_T101 U i).f0).size : Int) > 20) (fun _ => Ev.now false) (fun _ => hb)⟩
    simp only [bastillelaw32_Few.l0]
    rw [if_pos (by omega), if_pos (by omega), if_pos (by omega), ix_next i (by omega)]
  · exact evs (fun k => by simp only [bastillelaw32_Few.l0]; rw [if_neg (by omega)]) (few1 a U D F hD hm hF x)

/-! the limits -/
def m8 (m : S113) : Bool := decide (¬ (m.f4.length : Int) > 8)
def e4 (e : S116) : Bool := decide (¬ e.f0 < 1) && decide (¬ e.f0 > 4)
def v256 (x : S108) : Bool := decide (¬ (x.f1.length : Int) < 1) && decide (¬ (x.f1.length : Int) > 256)
def wF (f : S45) : Bool := decide (¬ (f.f2.length : Int) < 1) && decide (¬ (f.f3.length : Int) < 1) && decide (¬ (f.f4.length : Int) > 32) && f.f2.all m8 && f.f3.all e4 && f.f4.all v256
theorem find_loop {α : Type} (L : List α) (z : α) (hm : L.length ≤ 9223372036854775807) (g : Nat → Int → Option Int) (ok : α → Bool)
    (hstep : ∀ (i k : Nat), i < L.length → g (k + 1) (i : Int) = if ok (L.getD (i : Int).toNat z) = false then some (i : Int) else g k ((i + 1 : Nat) : Int)) (hfin : ∀ k, g (k + 1) (L.length : Int) = some (-1)) :
    ∀ (d i : Nat), i + d = L.length → ∃ r, Ev (fun k => g k (i : Int)) r ∧ decide (r ≥ 0) = !((L.drop i).all ok) := by
  intro d
  induction d with
  | zero =>
    intro i h
    refine ⟨-1, Ev.some_ (fun k => ?_), ?_⟩
    · rw [show i = L.length by omega]; exact hfin k
    · rw [drop_end L i (by omega)]; simp
  | succ d ih =>
    intro i h
    obtain ⟨r, hr, he⟩ := ih (i + 1) (by omega)
    rw [getD_drop L z i (by omega)]
    cases ho : ok (L.getD (i : Int).toNat z) with
    | false =>
      refine ⟨(i : Int), Ev.some_ (fun k => ?_), ?_⟩
      · rw [hstep i k (by omega), if_pos ho]
      · rw [List.all_cons, ho]; simp
    | true =>
      refine ⟨r, Ev.step (fun k => ?_) hr, ?_⟩
      · rw [hstep i k (by omega), if_neg (by rw [ho]; simp)]
      · rw [List.all_cons, ho, he]; simp
theorem contains84 (L : List S113) (hm : L.length ≤ 9223372036854775807) : Ev (fun k => slices_ContainsFunc_83_at_84.f k L) (!(L.all m8)) := by
  obtain ⟨r, hr, he⟩ := find_loop L z113 hm (fun k i => slices_IndexFunc_90_at_84.l0 k L (L.length : Int) i) m8 (fun i k hi => by
    simp only [slices_IndexFunc_90_at_84.l0]
    rw [if_pos (by omega), if_pos (by omega), if_pos (by omega), ix_next i (by omega)]
    simp only [bound_within_1.f, Option.bind_some, m8, rd_T113]
    simp) (fun k => by simp only [slices_IndexFunc_90_at_84.l0]; rw [if_neg (by omega)]) L.length 0 (by omega)
  rw [List.drop_zero] at he
  rw [← he]
  exact Ev.bind hr (Ev.now _)
theorem contains86 (L : List S116) (hm : L.length ≤ 9223372036854775807) : Ev (fun k => slices_ContainsFunc_85_at_86.f k L) (!(L.all e4)) := by
  obtain ⟨r, hr, he⟩ := find_loop L z116 hm (fun k i => slices_IndexFunc_91_at_86.l0 k L (L.length : Int) i) e4 (fun i k hi => by
    simp only [slices_IndexFunc_91_at_86.l0]
    rw [if_pos (by omega), if_pos (by omega), if_pos (by omega), ix_next i (by omega)]
    show _ = if e4 (rd_T116 L (i : Int)) = false then _ else _
    generalize rd_T116 L (i : Int) = e
    simp only [bound_within_2.f, e4]
    by_cases h1 : e.f0 < 1
    · rw [if_pos h1]; simp [h1]
    · rw [if_neg h1]; simp [h1]) (fun k => by simp only [slices_IndexFunc_91_at_86.l0]; rw [if_neg (by omega)]) L.length 0 (by omega)
  rw [List.drop_zero] at he
  rw [← he]
  exact Ev.bind hr (Ev.now _)
theorem contains88 (L : List S108) (hm : L.length ≤ 9223372036854775807) : Ev (fun k => slices_ContainsFunc_87_at_88.f k L) (!(L.all v256)) := by
  obtain ⟨r, hr, he⟩ := find_loop L z108 hm (fun k i => slices_IndexFunc_92_at_88.l0 k L (L.length : Int) i) v256 (fun i k hi => by
    simp only [slices_IndexFunc_92_at_88.l0]
    rw [if_pos (by omega), if_pos (by omega), if_pos (by omega), ix_next i (by omega)]
    show _ = if v256 (rd_T108 L (i : Int)) = false then _ else _
    generalize rd_T108 L (i : Int) = e
    simp only [bound_within_3.f, v256]
    by_cases h1 : (e.f1.length : Int) < 1
    · rw [if_pos h1]; simp [h1]
    · rw [if_neg h1]; simp [h1]) (fun k => by simp only [slices_IndexFunc_92_at_88.l0]; rw [if_neg (by omega)]) L.length 0 (by omega)
  rw [List.drop_zero] at he
  rw [← he]
  exact Ev.bind hr (Ev.now _)
theorem Ev.congr_r {α : Type} {g : Nat → Option α} {r s : α} (h : Ev g r) (e : r = s) : Ev g s := e ▸ h
theorem within_ev (f : S45) (h : g45 f) : Ev (fun k => bound_within.f k f.f0 f.f1 f.f2 f.f3 f.f4 f.f5 f.f6) (wF f) := by
  obtain ⟨_, _, h2, h3, h4, h5, h6⟩ := h
  have hj : ∀ c : Bool, Ev (fun k => bound_within.j0 k c f.f0 f.f1 f.f2 f.f3 f.f4 f.f5 f.f6) (!c && f.f2.all m8 && f.f3.all e4 && f.f4.all v256) := by
    intro c
    have hb : Ev (fun k => if c = true then (some false) else ((slices_ContainsFunc_83_at_84.f k f.f2).bind fun t185 => (if t185 = true then (some false) else ((slices_ContainsFunc_85_at_86.f k f.f3).bind fun t186 => (if t186 = true then (some false) else ((slices_ContainsFunc_87_at_88.f k f.f4).bind fun t187 => (some (!t187)))))))) (if c = true then false else if (!(f.f2.all m8)) = true then false else if (!(f.f3.all e4)) = true then false else !(!(f.f4.all v256))) :=
      Ev.ite_ (fun _ => Ev.now _) (fun _ => Ev.bind (contains84 f.f2 h2.1) (Ev.ite_ (fun _ => Ev.now _) (fun _ => Ev.bind (contains86 f.f3 h3.1) (Ev.ite_ (fun _ => Ev.now _) (fun _ => Ev.bind (contains88 f.f4 h4.1) (Ev.now _))))))
    refine Ev.step (fun k => by simp only [bound_within.j0]) (Ev.congr_r hb ?_)
    cases c <;> cases f.f2.all m8 <;> cases f.f3.all e4 <;> cases f.f4.all v256 <;> rfl
  unfold bound_within.f
  refine Ev.congr_r (Ev.ite_ (fun _ => hj true) (fun _ => Ev.ite_ (fun _ => hj true) (fun _ => hj _))) ?_
  unfold wF
  by_cases a1 : (f.f2.length : Int) < 1
  · simp [a1]
  · by_cases a2 : (f.f3.length : Int) < 1
    · simp [a2]
    · rw [if_neg a1, if_neg a2, show decide (¬ (f.f2.length : Int) < 1) = true from decide_eq_true a1, show decide (¬ (f.f3.length : Int) < 1) = true from decide_eq_true a2]
      by_cases a3 : (f.f4.length : Int) > 32
      · rw [show decide ((f.f4.length : Int) > 32) = true from decide_eq_true a3, show decide (¬ (f.f4.length : Int) > 32) = false from decide_eq_false (by omega)]; simp
      · rw [show decide ((f.f4.length : Int) > 32) = false from decide_eq_false a3, show decide (¬ (f.f4.length : Int) > 32) = true from decide_eq_true a3]; simp
def bad (f : S45) : Int := if wF f = true then 0 else 1
theorem sum67 (F : List S45) (hm : F.length ≤ 9223372036854775807) (hF : ∀ x ∈ F, g45 x) : ∀ (d i : Nat) (acc : Int), i + d = F.length →
    Ev (fun k => bound_sum_at_67.l0 k (wrap64 acc) F (F.length : Int) (i : Int)) (wrap64 (acc + tot bad (F.drop i))) := by
  intro d
  induction d with
  | zero =>
    intro i acc h
    refine Ev.some_ fun k => ?_
    simp only [bound_sum_at_67.l0]
    rw [if_neg (by omega), drop_end F i (by omega)]
    simp [tot]
  | succ d ih =>
    intro i acc h
    have := ih (i + 1) (acc + bad (rd_T45 F i)) (by omega)
    refine Ev.step (f := fun k => (bound_Within_1.f k (rd_T45 F i).f0 (rd_T45 F i).f1 (rd_T45 F i).f2 (rd_T45 F i).f3 (rd_T45 F i).f4 (rd_T45 F i).f5 (rd_T45 F i).f6).bind fun t => bound_sum_at_67.l0 k (wrap64 (wrap64 acc + t)) F (F.length : Int) ((i + 1 : Nat) : Int)) (fun k => ?_) ?_
    · simp only [bound_sum_at_67.l0]
      rw [if_pos (by omega), if_pos (by omega), if_pos (by omega), ix_next i (by omega)]
    · have hw : Ev (fun k => bound_Within_1.f k (rd_T45 F i).f0 (rd_T45 F i).f1 (rd_T45 F i).f2 (rd_T45 F i).f3 (rd_T45 F i).f4 (rd_T45 F i).f5 (rd_T45 F i).f6) (bad (rd_T45 F i)) :=
        Ev.bind (within_ev (rd_T45 F i) (hF _ (memD F z45 i (by omega)))) (Ev.ite_ (fun _ => Ev.now _) (fun _ => Ev.now _))
      refine Ev.bind hw ?_
      rw [getD_drop F z45 i (by omega)]
      simp only [tot]
      rw [w64l, ← Int.add_assoc]
      exact this
theorem tot_bad (F : List S45) : 0 ≤ tot bad F ∧ tot bad F ≤ F.length ∧ (tot bad F = 0 ↔ F.all wF = true) := by
  induction F with
  | nil => simp [tot]
  | cons f t ih =>
    simp only [tot, List.length_cons, List.all_cons]
    cases h : wF f with
    | true => simp only [bad, h, if_true, Bool.true_and]; refine ⟨by omega, by omega, by rw [← ih.2.2]; omega⟩
    | false => simp only [bad, h, Bool.false_and]; refine ⟨by simp; omega, by simp; omega, by simp; omega⟩
def withinS (U : List S101) (F : List S45) : Bool := decide ((U.length : Int) ≤ 16) && decide ((F.length : Int) ≤ 64) && F.all wF
theorem Within_ev (a : Int) (U : List S101) (D : List S103) (F : List S45) (hm : F.length ≤ 9223372036854775807) (hF : ∀ x ∈ F, g45 x) : Ev (fun k => bound_Within.f k a U D F) (withinS U F) := by
  have h1 := sum67 F hm hF F.length 0 0 (by omega)
  rw [show wrap64 0 = 0 from w64i (by omega) (by omega), List.drop_zero, Int.zero_add] at h1
  have hb := tot_bad F
  unfold bound_Within.f bound_sum_at_67.f
  refine Ev.congr_r (Ev.bind h1 (Ev.ite_ (fun _ => Ev.ite_ (fun _ => Ev.now _) (fun _ => Ev.now _)) (fun _ => Ev.now _))) ?_
  unfold withinS
  rw [w64i (by omega) (by omega)]
  have e : (tot bad F == 0) = F.all wF := by
    cases h : F.all wF with
    | true => rw [hb.2.2.2 h]; rfl
    | false =>
      have : ¬ tot bad F = 0 := fun e => by rw [hb.2.2.1 e] at h; cases h
      simpa using this
  rw [e]
  by_cases a1 : (U.length : Int) ≤ 16
  · by_cases a2 : (F.length : Int) ≤ 64
    · simp [a1, a2]
    · simp [a1, a2]
  · simp [a1]
section
variable (a : Int) (U : List S101) (D : List S103) (F : List S45) (f : S45)
theorem rw3 (m : Int) (r : Bool) (hm : f.f4.length ≤ 9223372036854775807) (hn : Ev (fun k => bastilleref33_Within.l0 k (wrap64 (m + 1)) a U D F) r) : ∀ (d i : Nat), i + d = f.f4.length →
    Ev (fun k => bastilleref33_Within.l3 k m (i : Int) a U D F f.f0 f.f1 f.f2 f.f3 f.f4 f.f5 f.f6) ((f.f4.drop i).all v256 && r) := by
  intro d
  induction d with
  | zero =>
    intro i h
    rw [drop_end f.f4 i (by omega)]
    refine Ev.step (fun k => ?_) (by simpa using hn)
    simp only [bastilleref33_Within.l3]
    rw [if_neg (by omega)]
  | succ d ih =>
    intro i h
    rw [getD_drop f.f4 z108 i (by omega), List.all_cons]
    have h1 := ih (i + 1) (by omega)
    refine Ev.step (f := fun k => if ((rd_T108 f.f4 i).f1.length : Int) = 0 then some false else if ((rd_T108 f.f4 i).f1.length : Int) > 256 then some false else bastilleref33_Within.l3 k m ((i + 1 : Nat) : Int) a U D F f.f0 f.f1 f.f2 f.f3 f.f4 f.f5 f.f6) (fun k => ?_) ?_
    · simp only [bastilleref33_Within.l3]
      rw [if_pos (by omega), if_pos (by omega), ix_next i (by omega)]
    · refine Ev.congr_r (Ev.ite_ (fun _ => Ev.now _) (fun _ => Ev.ite_ (fun _ => Ev.now _) (fun _ => h1))) ?_
      unfold v256 rd_T108
      generalize (f.f4.getD (i : Int).toNat z108).f1.length = n
      by_cases a1 : (n : Int) = 0
      · rw [if_pos a1]; simp; omega
      · rw [if_neg a1]
        by_cases a2 : (n : Int) > 256
        · rw [if_pos a2]; simp; omega
        · rw [if_neg a2, show decide (¬ (n : Int) < 1) = true from decide_eq_true (by omega), show decide (¬ (n : Int) > 256) = true from decide_eq_true a2]; simp
theorem rw2 (m : Int) (r : Bool) (hm : f.f3.length ≤ 9223372036854775807) (hn : Ev (fun k => bastilleref33_Within.l3 k m 0 a U D F f.f0 f.f1 f.f2 f.f3 f.f4 f.f5 f.f6) r) : ∀ (d i : Nat), i + d = f.f3.length →
    Ev (fun k => bastilleref33_Within.l2 k m (i : Int) a U D F f.f0 f.f1 f.f2 f.f3 f.f4 f.f5 f.f6) ((f.f3.drop i).all e4 && r) := by
  intro d
  induction d with
  | zero =>
    intro i h
    rw [drop_end f.f3 i (by omega)]
    refine Ev.step (fun k => ?_) (by simpa using hn)
    simp only [bastilleref33_Within.l2]
    rw [if_neg (by omega)]
  | succ d ih =>
    intro i h
    rw [getD_drop f.f3 z116 i (by omega), List.all_cons]
    have h1 := ih (i + 1) (by omega)
    refine Ev.step (f := fun k => if (rd_T116 f.f3 i).f0 < 1 then some false else if (rd_T116 f.f3 i).f0 > 4 then some false else bastilleref33_Within.l2 k m ((i + 1 : Nat) : Int) a U D F f.f0 f.f1 f.f2 f.f3 f.f4 f.f5 f.f6) (fun k => ?_) ?_
    · simp only [bastilleref33_Within.l2]
      rw [if_pos (by omega), if_pos (by omega), ix_next i (by omega)]
    · refine Ev.congr_r (Ev.ite_ (fun _ => Ev.now _) (fun _ => Ev.ite_ (fun _ => Ev.now _) (fun _ => h1))) ?_
      unfold e4 rd_T116
      by_cases a1 : (f.f3.getD (i : Int).toNat z116).f0 < 1
      · rw [if_pos a1, show decide (¬ (f.f3.getD (i : Int).toNat z116).f0 < 1) = false from decide_eq_false (by omega)]; rfl
      · rw [if_neg a1, show decide (¬ (f.f3.getD (i : Int).toNat z116).f0 < 1) = true from decide_eq_true a1]
        by_cases a2 : (f.f3.getD (i : Int).toNat z116).f0 > 4
        · rw [if_pos a2, show decide (¬ (f.f3.getD (i : Int).toNat z116).f0 > 4) = false from decide_eq_false (by omega)]; rfl
        · rw [if_neg a2, show decide (¬ (f.f3.getD (i : Int).toNat z116).f0 > 4) = true from decide_eq_true a2]; rfl
theorem rw1 (m : Int) (r : Bool) (hm : f.f2.length ≤ 9223372036854775807) (hn : Ev (fun k => bastilleref33_Within.l2 k m 0 a U D F f.f0 f.f1 f.f2 f.f3 f.f4 f.f5 f.f6) r) : ∀ (d i : Nat), i + d = f.f2.length →
    Ev (fun k => bastilleref33_Within.l1 k m (i : Int) a U D F f.f0 f.f1 f.f2 f.f3 f.f4 f.f5 f.f6) ((f.f2.drop i).all m8 && r) := by
  intro d
  induction d with
  | zero =>
    intro i h
    rw [drop_end f.f2 i (by omega)]
    refine Ev.step (fun k => ?_) (by simpa using hn)
    simp only [bastilleref33_Within.l1]
    rw [if_neg (by omega)]
  | succ d ih =>
    intro i h
    rw [getD_drop f.f2 z113 i (by omega), List.all_cons]
    have h1 := ih (i + 1) (by omega)
    refine Ev.step (f := fun k => if ((rd_T113 f.f2 i).f4.length : Int) > 8 then some false else bastilleref33_Within.l1 k m ((i + 1 : Nat) : Int) a U D F f.f0 f.f1 f.f2 f.f3 f.f4 f.f5 f.f6) (fun k => ?_) ?_
    · simp only [bastilleref33_Within.l1]
      rw [if_pos (by omega), if_pos (by omega), ix_next i (by omega)]
    · refine Ev.congr_r (Ev.ite_ (fun _ => Ev.now _) (fun _ => h1)) ?_
      unfold m8 rd_T113
      by_cases a1 : ((f.f2.getD (i : Int).toNat z113).f4.length : Int) > 8
      · rw [if_pos a1, show decide (¬ ((f.f2.getD (i : Int).toNat z113).f4.length : Int) > 8) = false from decide_eq_false (by omega)]; rfl
      · rw [if_neg a1, show decide (¬ ((f.f2.getD (i : Int).toNat z113).f4.length : Int) > 8) = true from decide_eq_true a1]; rfl
end
theorem rWithin_l0 (a : Int) (U : List S101) (D : List S103) (F : List S45) (hm : F.length ≤ 9223372036854775807) (hF : ∀ x ∈ F, g45 x) : ∀ (d i : Nat), i + d = F.length →
    Ev (fun k => bastilleref33_Within.l0 k (i : Int) a U D F) ((F.drop i).all wF) := by
  intro d
  induction d with
  | zero =>
    intro i h
    rw [drop_end F i (by omega)]
    refine Ev.some_ fun k => ?_
    simp only [bastilleref33_Within.l0]
    rw [if_neg (by omega)]
    rfl
  | succ d ih =>
    intro i h
    have h1 := ih (i + 1) (by omega)
    obtain ⟨_, _, h2, h3, h4, h5, h6⟩ := hF _ (memD F z45 i (by omega))
    rw [getD_drop F z45 i (by omega), List.all_cons]
    rw [← ix_next i (by omega)] at h1
    have q := rw1 a U D F (F.getD (i : Int).toNat z45) (i : Int) _ h2.1 (rw2 a U D F (F.getD (i : Int).toNat z45) (i : Int) _ h3.1 (rw3 a U D F (F.getD (i : Int).toNat z45) (i : Int) _ h4.1 h1 (F.getD (i : Int).toNat z45).f4.length 0 (by omega)) (F.getD (i : Int).toNat z45).f3.length 0 (by omega)) (F.getD (i : Int).toNat z45).f2.length 0 (by omega)
    rw [List.drop_zero, List.drop_zero, List.drop_zero] at q
    generalize hf : F.getD (i : Int).toNat z45 = f at q
    have hj : ∀ c : Bool, Ev (fun k => bastilleref33_Within.j2 k (i : Int) c a U D F f.f0 f.f1 f.f2 f.f3 f.f4 f.f5 f.f6) (if c = true then false else (f.f2.all m8 && (f.f3.all e4 && (f.f4.all v256 && (List.drop (i + 1) F).all wF)))) := by
      intro c
      refine Ev.step (fun k => by simp only [bastilleref33_Within.j2]; rfl) (Ev.ite_ (fun _ => Ev.now _) (fun _ => q))
    refine Ev.step (f := fun k => if (f.f2.length : Int) = 0 then bastilleref33_Within.j2 k (i : Int) true a U D F f.f0 f.f1 f.f2 f.f3 f.f4 f.f5 f.f6 else if (f.f3.length : Int) = 0 then bastilleref33_Within.j2 k (i : Int) true a U D F f.f0 f.f1 f.f2 f.f3 f.f4 f.f5 f.f6 else bastilleref33_Within.j2 k (i : Int) (decide ((f.f4.length : Int) > 32)) a U D F f.f0 f.f1 f.f2 f.f3 f.f4 f.f5 f.f6) (fun k => ?_) ?_
    · simp only [bastilleref33_Within.l0]
      rw [if_pos (by omega), if_pos (by omega)]
      simp only [rd_T45, hf]
    · refine Ev.congr_r (Ev.ite_ (fun _ => hj true) (fun _ => Ev.ite_ (fun _ => hj true) (fun _ => hj _))) ?_
      unfold wF
      by_cases a1 : (f.f2.length : Int) = 0
      · rw [if_pos a1, show decide (¬ (f.f2.length : Int) < 1) = false from decide_eq_false (by omega)]; simp
      · rw [if_neg a1, show decide (¬ (f.f2.length : Int) < 1) = true from decide_eq_true (by omega)]
        by_cases a2 : (f.f3.length : Int) = 0
        · rw [if_pos a2, show decide (¬ (f.f3.length : Int) < 1) = false from decide_eq_false (by omega)]; simp
        · rw [if_neg a2, show decide (¬ (f.f3.length : Int) < 1) = true from decide_eq_true (by omega)]
          by_cases a3 : (f.f4.length : Int) > 32
          · simp [a3]
          · simp [a3, Bool.and_assoc]
theorem rWithin_ev (a : Int) (U : List S101) (D : List S103) (F : List S45) (hm : F.length ≤ 9223372036854775807) (hF : ∀ x ∈ F, g45 x) : Ev (fun k => bastilleref33_Within.f k a U D F) (withinS U F) := by
  have hj : ∀ c : Bool, Ev (fun k => bastilleref33_Within.j0 k c a U D F) (if c = true then false else F.all wF) := by
    intro c
    have := rWithin_l0 a U D F hm hF F.length 0 (by omega)
    rw [List.drop_zero] at this
    exact Ev.step (fun k => by simp only [bastilleref33_Within.j0]; rfl) (Ev.ite_ (fun _ => Ev.now _) (fun _ => this))
  unfold bastilleref33_Within.f
  refine Ev.congr_r (Ev.ite_ (fun _ => hj true) (fun _ => hj _)) ?_
  unfold withinS
  by_cases a1 : (U.length : Int) > 16
  · rw [if_pos a1, show decide ((U.length : Int) ≤ 16) = false from decide_eq_false (by omega)]; simp
  · rw [if_neg a1, show decide ((U.length : Int) ≤ 16) = true from decide_eq_true (by omega)]
    by_cases a2 : (F.length : Int) > 64
    · rw [show decide ((F.length : Int) > 64) = true from decide_eq_true a2, show decide ((F.length : Int) ≤ 64) = false from decide_eq_false (by omega)]; simp
    · rw [show decide ((F.length : Int) > 64) = false from decide_eq_false a2, show decide ((F.length : Int) ≤ 64) = true from decide_eq_true (by omega)]; simp
theorem awake_ev : Ev (fun k => bastillelaw33_awake.f k) true := Ev.of (fun k => bastillelaw33_awake.mono k) (k := 20) (by decide +kernel)
theorem BoundCounts : bastillelaw33_BoundCounts.Pure := by
  intro a U D F q r _ hU hD hF _ _
  have hm := hF.1
  have hFg := hF.2
  obtain ⟨c, hc⟩ := few_total a U D F hU.1 hD.1 hm hFg
  refine Ev.rounds (r := true) ?_
  unfold bastillelaw33_BoundCounts.f
  refine Ev.bind awake_ev ?_
  simp only [if_true]
  refine Ev.bind hc ?_
  cases c with
  | false => exact Ev.now _
  | true =>
    simp only [if_true]
    refine Ev.bind (count_ev a U D F hm hFg) (Ev.bind (small_ev a U D F hm) (Ev.bind (large_ev a U D F hm hFg) ?_))
    simp only [if_true]
    refine Ev.bind (bytes_ev a U D F hm hFg) ?_
    rw [w64mul, w64mul, w64lr]
    simp only [if_true]
    refine Ev.bind (homes_ev a U D F hm hFg) ?_
    rw [w64mul, w64mul, w64lr]
    simp only [if_true]
    refine Ev.bind (fits_ev a U D F hm hFg q r) (Ev.bind (rfits_ev a U D F hm hFg q r) ?_)
    simp only [if_true]
    refine Ev.bind (Within_ev a U D F hm hFg) (Ev.bind (rWithin_ev a U D F hm hFg) ?_)
    simp only [beq_self_eq_true]
    exact Ev.now _

end Go.Proofs.Ytealjhngfhlpaaa.Pure
