/- The plain law of the statement BoundLeft, for every input. -/
import Derived.Test.YtealjhngfhlpaaaPBoundLeftg
namespace Go.Proofs.Ytealjhngfhlpaaa.Pure
open Go.RowKit Go.Proofs.Ytealjhngfhlpaaa.PBoundLeft Go.Proofs.YtealjhngfhlpaaaW.PrintWords Go.Proofs.YtealjhngfhlpaaaW.PrintLast Go.Proofs.YtealjhngfhlpaaaW.PrintMore
set_option linter.unusedVariables false
set_option linter.unusedSimpArgs false

/-! ### loops, by 'from some number of rounds on' -/
theorem w64i {x : Int} (h0 : -9223372036854775808 ≤ x) (h1 : x ≤ 9223372036854775807) : wrap64 x = x := by unfold wrap64; omega
theorem w64w (a : Int) : wrap64 (wrap64 a) = wrap64 a := by unfold wrap64; omega
theorem w64l (a b : Int) : wrap64 (wrap64 a + b) = wrap64 (a + b) := by unfold wrap64; omega
theorem w64r (a b : Int) : wrap64 (a + wrap64 b) = wrap64 (a + b) := by unfold wrap64; omega
theorem w64mul (c a : Int) : wrap64 (c * wrap64 a) = wrap64 (c * a) := by
  have e : ∀ x : Int, wrap64 x = x - 18446744073709551616 * ((x + 9223372036854775808) / 18446744073709551616) := by intro x; unfold wrap64; omega
  rw [e a, Int.mul_sub, ← Int.mul_assoc, Int.mul_comm c 18446744073709551616, Int.mul_assoc]
  unfold wrap64
  omega
theorem w64lr (a b : Int) : wrap64 (wrap64 a + wrap64 b) = wrap64 (a + b) := by rw [w64l, w64r]
theorem ix_next (i : Nat) (h : (i : Int) < 9223372036854775807) : wrap64 ((i : Int) + 1) = ((i + 1 : Nat) : Int) := by rw [w64i (by omega) (by omega)]; omega
theorem Ev.some_ {α : Type} {g : Nat → Option α} {r : α} (h : ∀ k, g (k + 1) = some r) : Ev g r := Ev.step h (Ev.now r)
def tot {α : Type} (f : α → Int) : List α → Int
  | [] => 0
  | x :: t => f x + tot f t
theorem getD_drop {α : Type} (l : List α) (z : α) (i : Nat) (h : i < l.length) : l.drop i = l.getD (i : Int).toNat z :: l.drop (i + 1) := by
  rw [List.drop_eq_getElem_cons h, show (i : Int).toNat = i by omega]
  congr 1
  simp [List.getD, List.getElem?_eq_getElem h]
theorem drop_end {α : Type} (l : List α) (i : Nat) (h : i = l.length) : l.drop i = [] := List.drop_of_length_le (by omega)

def one1 (f : S45) : Int := f.f4.length + f.f5.length + f.f6.length
def vers (x : S108) : Int := x.f1.length
def one2 (f : S45) : Int := f.f2.length + f.f3.length + tot vers f.f4
theorem p65 (acc a b c : Int) : wrap64 (wrap64 acc + wrap64 (wrap64 (a + b) + c)) = wrap64 (acc + (a + b + c)) := by unfold wrap64; omega
theorem pS (acc a b c : Int) : wrap64 (wrap64 (wrap64 (wrap64 (wrap64 acc + 1) + a) + b) + c) = wrap64 (acc + 1 + (a + b + c)) := by unfold wrap64; omega
theorem pL (acc a b : Int) : wrap64 (wrap64 (wrap64 acc + a) + b) = wrap64 (acc + a + b) := by unfold wrap64; omega
theorem pC (a b c d e : Int) : wrap64 (wrap64 (wrap64 (wrap64 (a + wrap64 b) + c) + d) + wrap64 (0 + e)) = wrap64 (a + b + c + d + e) := by unfold wrap64; omega
theorem sum65 (F : List S45) (hm : F.length ≤ 9223372036854775807) : ∀ (d i : Nat) (acc : Int), i + d = F.length →
    Ev (fun k => bound_sum_at_65.l0 k (wrap64 acc) F (F.length : Int) (i : Int)) (wrap64 (acc + tot one1 (F.drop i))) := by
  intro d
  induction d with
  | zero =>
    intro i acc h
    refine Ev.some_ fun k => ?_
    simp only [bound_sum_at_65.l0]
    rw [if_neg (by omega), drop_end F i (by omega)]
    simp [tot]
  | succ d ih =>
    intro i acc h
    have := ih (i + 1) (acc + one1 (rd_T45 F i)) (by omega)
    refine Ev.step (f := fun k => bound_sum_at_65.l0 k (wrap64 (acc + one1 (rd_T45 F i))) F (F.length : Int) ((i + 1 : Nat) : Int)) (fun k => ?_) ?_
    · simp only [bound_sum_at_65.l0]
      rw [if_pos (by omega), if_pos (by omega), if_pos (by omega)]
      simp only [bound_Count_1.f, Option.bind_some]
      rw [ix_next i (by omega)]
      rw [p65]
      rfl
    · rw [getD_drop F z45 i (by omega)]
      simp only [tot]
      rw [← Int.add_assoc]
      exact this
theorem count2 (I : List S108) (hm : I.length ≤ 9223372036854775807) : ∀ (d i : Nat) (acc : Int), i + d = I.length →
    Ev (fun k => bound_Count_2.l0 k (wrap64 acc) I (I.length : Int) (i : Int)) (wrap64 (acc + tot vers (I.drop i))) := by
  intro d
  induction d with
  | zero =>
    intro i acc h
    refine Ev.some_ fun k => ?_
    simp only [bound_Count_2.l0]
    rw [if_neg (by omega), drop_end I i (by omega)]
    simp [tot]
  | succ d ih =>
    intro i acc h
    have := ih (i + 1) (acc + vers (rd_T108 I i)) (by omega)
    refine Ev.step (f := fun k => bound_Count_2.l0 k (wrap64 (acc + vers (rd_T108 I i))) I (I.length : Int) ((i + 1 : Nat) : Int)) (fun k => ?_) ?_
    · simp only [bound_Count_2.l0]
      rw [if_pos (by omega), if_pos (by omega), if_pos (by omega), ix_next i (by omega), w64l]
      rfl
    · rw [getD_drop I z108 i (by omega)]
      simp only [tot]
      rw [← Int.add_assoc]
      exact this
theorem count2f (f : S45) (hm : f.f4.length ≤ 9223372036854775807) : Ev (fun k => bound_Count_2.f k f.f0 f.f1 f.f2 f.f3 f.f4 f.f5 f.f6) (wrap64 (one2 f)) := by
  have := count2 f.f4 hm f.f4.length 0 ((f.f2.length : Int) + f.f3.length) (by omega)
  exact this
theorem sum66 (F : List S45) (hm : F.length ≤ 9223372036854775807) (hF : ∀ x ∈ F, x.f4.length ≤ 9223372036854775807) : ∀ (d i : Nat) (acc : Int), i + d = F.length →
    Ev (fun k => bound_sum_at_66.l0 k (wrap64 acc) F (F.length : Int) (i : Int)) (wrap64 (acc + tot one2 (F.drop i))) := by
  intro d
  induction d with
  | zero =>
    intro i acc h
    refine Ev.some_ fun k => ?_
    simp only [bound_sum_at_66.l0]
    rw [if_neg (by omega), drop_end F i (by omega)]
    simp [tot]
  | succ d ih =>
    intro i acc h
    have := ih (i + 1) (acc + one2 (rd_T45 F i)) (by omega)
    have hx : rd_T45 F i ∈ F := by
      have := List.mem_of_mem_drop (i := i) (l := F) (a := rd_T45 F i) (by rw [getD_drop F z45 i (by omega)]; exact List.mem_cons_self)
      exact this
    have hg := hF _ hx
    refine Ev.step (f := fun k => (bound_Count_2.f k (rd_T45 F i).f0 (rd_T45 F i).f1 (rd_T45 F i).f2 (rd_T45 F i).f3 (rd_T45 F i).f4 (rd_T45 F i).f5 (rd_T45 F i).f6).bind fun t => bound_sum_at_66.l0 k (wrap64 (wrap64 acc + t)) F (F.length : Int) ((i + 1 : Nat) : Int)) (fun k => ?_) ?_
    · simp only [bound_sum_at_66.l0]
      rw [if_pos (by omega), if_pos (by omega), if_pos (by omega), ix_next i (by omega)]
    · refine Ev.bind (count2f (rd_T45 F i) (by omega)) ?_
      rw [getD_drop F z45 i (by omega)]
      simp only [tot, w64lr]
      rw [← Int.add_assoc]
      exact this
def smallS (U : List S101) (D : List S103) (F : List S45) : Int := mn (F.length : Int) 1 + 2 * U.length + D.length + F.length + tot one1 F
def largeS (F : List S45) : Int := tot one2 F
theorem count_ev (a : Int) (U : List S101) (D : List S103) (F : List S45) (hm : F.length ≤ 9223372036854775807) (hF : ∀ x ∈ F, x.f4.length ≤ 9223372036854775807) :
    Ev (fun k => bound_Count.f k a U D F) (wrap64 (smallS U D F), wrap64 (largeS F)) := by
  have h1 := sum65 F hm F.length 0 0 (by omega)
  have h2 := sum66 F hm hF F.length 0 0 (by omega)
  have e0 : wrap64 0 = 0 := w64i (by omega) (by omega)
  rw [e0] at h1 h2
  unfold bound_Count.f bound_sum_at_65.f bound_sum_at_66.f
  refine Ev.bind h1 (Ev.bind h2 ?_)
  have e : wrap64 (wrap64 (wrap64 (wrap64 (mn (↑F.length) 1 + wrap64 (2 * ↑U.length)) + ↑D.length) + ↑F.length) + wrap64 (0 + tot one1 (List.drop 0 F))) = wrap64 (smallS U D F) := by
    rw [List.drop_zero, pC]
    rfl
  rw [e, List.drop_zero, Int.zero_add]
  exact Ev.now _
theorem bytes_ev (a : Int) (U : List S101) (D : List S103) (F : List S45) (hm : F.length ≤ 9223372036854775807) (hF : ∀ x ∈ F, x.f4.length ≤ 9223372036854775807) :
    Ev (fun k => bound_Bytes.f k a U D F) (wrap64 (120 * smallS U D F + 1020 * largeS F)) := by
  unfold bound_Bytes.f
  refine Ev.bind (count_ev a U D F hm hF) ?_
  show Ev (fun _ => some (wrap64 (wrap64 (120 * wrap64 (smallS U D F)) + wrap64 (1020 * wrap64 (largeS F))))) _
  rw [w64mul, w64mul, w64lr]
  exact Ev.now _
theorem homes_ev (a : Int) (U : List S101) (D : List S103) (F : List S45) (hm : F.length ≤ 9223372036854775807) (hF : ∀ x ∈ F, x.f4.length ≤ 9223372036854775807) :
    Ev (fun k => bound_Homes.f k a U D F) (wrap64 (3 * smallS U D F + 18 * largeS F)) := by
  unfold bound_Homes.f
  rw [show bound_takes.f 120 = some 3 by decide +kernel, show bound_takes.f 1020 = some 18 by decide +kernel]
  refine Ev.bind (count_ev a U D F hm hF) ?_
  show Ev (fun _ => some (wrap64 (wrap64 (3 * wrap64 (smallS U D F)) + wrap64 (18 * wrap64 (largeS F))))) _
  rw [w64mul, w64mul, w64lr]
  exact Ev.now _
def fitsS (B H q r : Int) : Int := if B > q then 33 else if H > r then 32 else 0
theorem Ev.ite_ {α : Type} {c : Prop} [Decidable c] {g f : Nat → Option α} {r s : α} (h1 : c → Ev g r) (h2 : ¬ c → Ev f s) : Ev (fun k => if c then g k else f k) (if c then r else s) := by
  by_cases h : c
  · simp only [if_pos h]; exact h1 h
  · simp only [if_neg h]; exact h2 h
theorem fits_ev (a : Int) (U : List S101) (D : List S103) (F : List S45) (hm : F.length ≤ 9223372036854775807) (hF : ∀ x ∈ F, x.f4.length ≤ 9223372036854775807) (q r : Int) :
    Ev (fun k => bound_Fits.f k a U D F q r) (fitsS (wrap64 (120 * smallS U D F + 1020 * largeS F)) (wrap64 (3 * smallS U D F + 18 * largeS F)) q r) := by
  unfold bound_Fits.f fitsS
  refine Ev.bind (bytes_ev a U D F hm hF) (Ev.ite_ (fun _ => Ev.now _) (fun _ => Ev.bind (homes_ev a U D F hm hF) ?_))
  exact Ev.ite_ (fun _ => Ev.now _) (fun _ => Ev.now _)
theorem memD {α : Type} (l : List α) (z : α) (i : Nat) (h : i < l.length) : l.getD (i : Int).toNat z ∈ l := by
  have := List.mem_of_mem_drop (i := i) (l := l) (a := l.getD (i : Int).toNat z) (by rw [getD_drop l z i h]; exact List.mem_cons_self)
  exact this
theorem loop_total {β : Type} (n : Nat) (g : Nat → Int → Int → Option β) (step : ∀ (i : Nat) x, i < n → (∀ x', ∃ b, Ev (fun k => g k x' ((i + 1 : Nat) : Int)) b) → ∃ b, Ev (fun k => g k x (i : Int)) b)
    (fin : ∀ x, ∃ b, Ev (fun k => g k x (n : Int)) b) : ∀ (d i : Nat) (x : Int), i + d = n → ∃ b, Ev (fun k => g k x (i : Int)) b := by
  intro d
  induction d with
  | zero => intro i x h; rw [show i = n by omega]; exact fin x
  | succ d ih => intro i x h; exact step i x (by omega) (fun x' => ih (i + 1) x' (by omega))
theorem evs {β : Type} {g f : Nat → Option β} (h : ∀ k, g (k + 1) = f k) (k : ∃ b, Ev f b) : ∃ b, Ev g b := by
  obtain ⟨b, hb⟩ := k
  exact ⟨b, Ev.step h hb⟩
theorem loop0 {β : Type} (n : Nat) (g : Nat → Int → Int → Option β) (step : ∀ (i : Nat) x, i < n → (∀ x', ∃ b, Ev (fun k => g k x' ((i + 1 : Nat) : Int)) b) → ∃ b, Ev (fun k => g k x (i : Int)) b)
    (fin : ∀ x, ∃ b, Ev (fun k => g k x (n : Int)) b) (x : Int) : ∃ b, Ev (fun k => g k x 0) b := loop_total n g step fin n 0 x (by omega)
section
variable (a : ByteArray) (u : Int) (M : List S113) (E : List S116) (I : List S108) (Wr : List S137) (L : List S139)
theorem nm6 (hL : L.length ≤ 9223372036854775807) (x : Int) : ∃ b, Ev (fun k => bastillelaw32_names.l6 k x L (L.length : Int) 0) b := by
  refine loop0 L.length (fun k x i => bastillelaw32_names.l6 k x L (L.length : Int) i) (fun i x hi hn => ?_) (fun x => ?_) x
  · refine evs (fun k => ?_) (hn (mx x (((rd_T139 L i).f1).size : Int)))
    simp only [bastillelaw32_names.l6]
    rw [if_pos (by omega), if_pos (by omega), if_pos (by omega), ix_next i (by omega)]
  · exact ⟨_, Ev.some_ (fun k => by simp only [bastillelaw32_names.l6]; rw [if_neg (by omega)])⟩
theorem nm5 (hW : Wr.length ≤ 9223372036854775807) (hL : L.length ≤ 9223372036854775807) (x : Int) : ∃ b, Ev (fun k => bastillelaw32_names.l5 k x Wr (Wr.length : Int) 0 a u M E I Wr L) b := by
  refine loop0 Wr.length (fun k x i => bastillelaw32_names.l5 k x Wr (Wr.length : Int) i a u M E I Wr L) (fun i x hi hn => ?_) (fun x => ?_) x
  · refine evs (fun k => ?_) (hn (mx x (((rd_T137 Wr i).f0).size : Int)))
    simp only [bastillelaw32_names.l5]
    rw [if_pos (by omega), if_pos (by omega), if_pos (by omega), ix_next i (by omega)]
  · exact evs (fun k => by simp only [bastillelaw32_names.l5]; rw [if_neg (by omega)]) (nm6 L hL x)
theorem nm4 (hI : I.length ≤ 9223372036854775807) (hW : Wr.length ≤ 9223372036854775807) (hL : L.length ≤ 9223372036854775807) (x : Int) : ∃ b, Ev (fun k => bastillelaw32_names.l4 k x I (I.length : Int) 0 a u M E I Wr L) b := by
  refine loop0 I.length (fun k x i => bastillelaw32_names.l4 k x I (I.length : Int) i a u M E I Wr L) (fun i x hi hn => ?_) (fun x => ?_) x
  · refine evs (fun k => ?_) (hn (mx (mx x (((rd_T108 I i).f0).size : Int)) (((rd_T108 I i).f1).length : Int)))
    simp only [bastillelaw32_names.l4]
    rw [if_pos (by omega), if_pos (by omega), if_pos (by omega), ix_next i (by omega)]
  · exact evs (fun k => by simp only [bastillelaw32_names.l4]; rw [if_neg (by omega)]) (nm5 a u M E I Wr L hW hL x)
theorem nm3 (C : List S135) (hC : C.length ≤ 9223372036854775807) (n m : Int) (hnext : ∀ x, ∃ b, Ev (fun k => bastillelaw32_names.l2 k x E n (wrap64 (m + 1)) a u M E I Wr L) b) (x : Int) :
    ∃ b, Ev (fun k => bastillelaw32_names.l3 k x E n m C (C.length : Int) 0 a u M E I Wr L) b := by
  refine loop0 C.length (fun k x i => bastillelaw32_names.l3 k x E n m C (C.length : Int) i a u M E I Wr L) (fun i x hi hn => ?_) (fun x => ?_) x
  · refine evs (fun k => ?_) (hn (mx x (((rd_T135 C i).f0).size : Int)))
    simp only [bastillelaw32_names.l3]
    rw [if_pos (by omega), if_pos (by omega), if_pos (by omega), ix_next i (by omega)]
  · exact evs (fun k => by simp only [bastillelaw32_names.l3]; rw [if_neg (by omega)]) (hnext x)
theorem nm2 (hE : E.length ≤ 9223372036854775807) (hEg : ∀ e ∈ E, g116 e) (hI : I.length ≤ 9223372036854775807) (hW : Wr.length ≤ 9223372036854775807) (hL : L.length ≤ 9223372036854775807) (x : Int) : ∃ b, Ev (fun k => bastillelaw32_names.l2 k x E (E.length : Int) 0 a u M E I Wr L) b := by
  refine loop0 E.length (fun k x i => bastillelaw32_names.l2 k x E (E.length : Int) i a u M E I Wr L) (fun i x hi hn => ?_) (fun x => ?_) x
  · have hg := (hEg _ (memD E z116 i hi)).2.2.2.1.1
    refine evs (fun k => ?_) (nm3 a u M E I Wr L (rd_T116 E i).f3 (by have hg' : (rd_T116 E i).f3.length * 24 ≤ 140737488351232 := hg; omega) (E.length : Int) (i : Int) (fun x' => by rw [ix_next i (by omega)]; exact hn x') (mx x (((rd_T116 E i).f3).length : Int)))
    simp only [bastillelaw32_names.l2]
    rw [if_pos (by omega), if_pos (by omega), if_pos (by omega)]
  · exact evs (fun k => by simp only [bastillelaw32_names.l2]; rw [if_neg (by omega)]) (nm4 a u M E I Wr L hI hW hL x)
theorem nm1 (C : List S133) (hC : C.length ≤ 9223372036854775807) (n m : Int) (hnext : ∀ x, ∃ b, Ev (fun k => bastillelaw32_names.l0 k x M n (wrap64 (m + 1)) a u M E I Wr L) b) (x : Int) :
    ∃ b, Ev (fun k => bastillelaw32_names.l1 k x M n m C (C.length : Int) 0 a u M E I Wr L) b := by
  refine loop0 C.length (fun k x i => bastillelaw32_names.l1 k x M n m C (C.length : Int) i a u M E I Wr L) (fun i x hi hn => ?_) (fun x => ?_) x
  · refine evs (fun k => ?_) (hn (mx x (((rd_T133 C i).f0).size : Int)))
    simp only [bastillelaw32_names.l1]
    rw [if_pos (by omega), if_pos (by omega), if_pos (by omega), ix_next i (by omega)]
  · exact evs (fun k => by simp only [bastillelaw32_names.l1]; rw [if_neg (by omega)]) (hnext x)
theorem nm0 (hM : M.length ≤ 9223372036854775807) (hMg : ∀ e ∈ M, g113 e) (hE : E.length ≤ 9223372036854775807) (hEg : ∀ e ∈ E, g116 e) (hI : I.length ≤ 9223372036854775807) (hW : Wr.length ≤ 9223372036854775807) (hL : L.length ≤ 9223372036854775807) (x : Int) :
    ∃ b, Ev (fun k => bastillelaw32_names.l0 k x M (M.length : Int) 0 a u M E I Wr L) b := by
  refine loop0 M.length (fun k x i => bastillelaw32_names.l0 k x M (M.length : Int) i a u M E I Wr L) (fun i x hi hn => ?_) (fun x => ?_) x
  · have hg := (hMg _ (memD M z113 i hi)).2.2.2.2.1.1
    refine evs (fun k => ?_) (nm1 a u M E I Wr L (rd_T113 M i).f4 (by have hg' : (rd_T113 M i).f4.length * 24 ≤ 140737488351232 := hg; omega) (M.length : Int) (i : Int) (fun x' => by rw [ix_next i (by omega)]; exact hn x') (mx (mx x (((rd_T113 M i).f3).size : Int)) (((rd_T113 M i).f4).length : Int)))
    simp only [bastillelaw32_names.l0]
    rw [if_pos (by omega), if_pos (by omega), if_pos (by omega)]
  · exact evs (fun k => by simp only [bastillelaw32_names.l0]; rw [if_neg (by omega)]) (nm2 a u M E I Wr L hE hEg hI hW hL x)
end
theorem names_total (f : S45) (h : g45 f) : ∃ b, Ev (fun k => bastillelaw32_names.f k f.f0 f.f1 f.f2 f.f3 f.f4 f.f5 f.f6) b := by
  obtain ⟨_, _, h2, h3, h4, h5, h6⟩ := h
  exact nm0 f.f0 f.f1 f.f2 f.f3 f.f4 f.f5 f.f6 (by have := h2.1; omega) h2.2 (by have := h3.1; omega) h3.2 (by have := h4.1; omega) (by have := h5.1; omega) (by have := h6.1; omega) _
theorem few2 (F : List S45) (hm : F.length ≤ 9223372036854775807) (hF : ∀ x ∈ F, g45 x) (x : Int) : ∃ b, Ev (fun k => bastillelaw32_Few.l2 k x F (F.length : Int) 0) b := by
  refine loop0 F.length (fun k x i => bastillelaw32_Few.l2 k x F (F.length : Int) i) (fun i x hi hn => ?_) (fun x => ?_) x
  · obtain ⟨b1, hb1⟩ := names_total _ (hF _ (memD F z45 i hi))
    have key : ∀ y : Int, ∃ b, Ev (fun k => if y > 100 then (some false) else ((bastillelaw32_names.f k ((rd_T45 F i).f0) ((rd_T45 F i).f1) ((rd_T45 F i).f2) ((rd_T45 F i).f3) ((rd_T45 F i).f4) ((rd_T45 F i).f5) ((rd_T45 F i).f6)).bind fun t159 => (if t159 = true then (bastillelaw32_Few.l2 k y F (F.length : Int) ((i + 1 : Nat) : Int)) else (some false)))) b := by
      intro y
      obtain ⟨b2, hb2⟩ := hn y
      exact ⟨_, Ev.ite_ (fun _ => Ev.now _) (fun _ => Ev.bind hb1 (Ev.ite_ (fun _ => hb2) (fun _ => Ev.now _)))⟩
    refine evs (fun k => ?_) (key (wrap64 ((wrap64 ((wrap64 ((wrap64 ((wrap64 (x + (((rd_T45 F i).f2).length : Int))) + (((rd_T45 F i).f3).length : Int))) + (((rd_T45 F i).f4).length : Int))) + (((rd_T45 F i).f5).length : Int))) + (((rd_T45 F i).f6).length : Int))))
    simp only [bastillelaw32_Few.l2]
    rw [if_pos (by omega), if_pos (by omega), if_pos (by omega), ix_next i (by omega)]
  · exact ⟨_, Ev.some_ (fun k => by simp only [bastillelaw32_Few.l2]; rw [if_neg (by omega)])⟩
theorem few1 (a : Int) (U : List S101) (D : List S103) (F : List S45) (hD : D.length ≤ 9223372036854775807) (hm : F.length ≤ 9223372036854775807) (hF : ∀ x ∈ F, g45 x) (x : Int) : ∃ b, Ev (fun k => bastillelaw32_Few.l1 k x D (D.length : Int) 0 a U D F) b := by
  refine loop0 D.length (fun k x i => bastillelaw32_Few.l1 k x D (D.length : Int) i a U D F) (fun i x hi hn => ?_) (fun x => ?_) x
  · obtain ⟨b, hb⟩ := hn x
    refine evs (fun k => ?_) ⟨_, Ev.ite_ (c := (((rd_T103 D i).f0).size : Int) > 20) (fun _ => Ev.now false) (fun _ => Ev.ite_ (c := (((rd_T103 D i).f1).size : Int) > 20) (fun _ => Ev.now false) (fun _ => hb))⟩
    simp only [bastillelaw32_Few.l1]
    rw [if_pos (by omega), if_pos (by omega), if_pos (by omega), ix_next i (by omega)]
  · obtain ⟨b, hb⟩ := few2 F hm hF x
    exact evs (fun k => by simp only [bastillelaw32_Few.l1]; rw [if_neg (by omega)]) ⟨_, Ev.ite_ (c := (F.length : Int) > 8) (fun _ => Ev.now false) (fun _ => hb)⟩
theorem few_total (a : Int) (U : List S101) (D : List S103) (F : List S45) (hU : U.length ≤ 9223372036854775807) (hD : D.length ≤ 9223372036854775807) (hm : F.length ≤ 9223372036854775807) (hF : ∀ x ∈ F, g45 x) : ∃ b, Ev (fun k => bastillelaw32_Few.f k a U D F) b := by
  unfold bastillelaw32_Few.f
  generalize wrap64 ((U.length : Int) + (D.length : Int)) = x
  refine loop0 U.length (fun k x i => bastillelaw32_Few.l0 k x U (U.length : Int) i a U D F) (fun i x hi hn => ?_) (fun x => ?_) x
  · obtain ⟨b, hb⟩ := hn x
    refine evs (fun k => ?_) ⟨_, Ev.ite_ (c := (((rd_T101 U i).f0).size : Int) > 20) (fun _ => Ev.now false) (fun _ => hb)⟩
    simp only [bastillelaw32_Few.l0]
    rw [if_pos (by omega), if_pos (by omega), if_pos (by omega), ix_next i (by omega)]
  · exact evs (fun k => by simp only [bastillelaw32_Few.l0]; rw [if_neg (by omega)]) (few1 a U D F hD hm hF x)


/-! ### what a small state is -/
theorem mx_le {a b c : Int} (h : mx a b ≤ c) : a ≤ c ∧ b ≤ c := by
  unfold mx at h
  split at h <;> omega
theorem inv6 (L : List S139) (n : Int) : ∀ (k : Nat) (x i : Int), bastillelaw32_names.l6 k x L n i = some true → x ≤ 20
  | 0, x, i, h => by simp [bastillelaw32_names.l6] at h
  | k + 1, x, i, h => by
    simp only [bastillelaw32_names.l6] at h
    split at h
    · split at h
      · split at h
        · exact (mx_le (inv6 L n k _ _ h)).1
        · cases h
      · cases h
    · simpa using h
section
variable (a : ByteArray) (u : Int) (M : List S113) (E : List S116) (I : List S108) (Wr : List S137) (L : List S139)
theorem inv5 (n : Int) (W2 : List S137) : ∀ (k : Nat) (x i : Int), bastillelaw32_names.l5 k x W2 n i a u M E I Wr L = some true → x ≤ 20
  | 0, x, i, h => by simp [bastillelaw32_names.l5] at h
  | k + 1, x, i, h => by
    simp only [bastillelaw32_names.l5] at h
    split at h
    · split at h
      · split at h
        · exact (mx_le (inv5 n W2 k _ _ h)).1
        · cases h
      · cases h
    · exact inv6 _ _ _ _ _ h
theorem inv4 (hI : I.length ≤ 9223372036854775807) : ∀ (k : Nat) (x : Int) (i : Nat), bastillelaw32_names.l4 k x I (I.length : Int) (i : Int) a u M E I Wr L = some true → x ≤ 20 ∧ ∀ j, i ≤ j → j < I.length → (rd_T108 I (j : Int)).f1.length ≤ 20
  | 0, x, i, h => by simp [bastillelaw32_names.l4] at h
  | k + 1, x, i, h => by
    simp only [bastillelaw32_names.l4] at h
    by_cases hi : i < I.length
    · rw [if_pos (by omega), if_pos (by omega), if_pos (by omega), ix_next i (by omega)] at h
      obtain ⟨h1, h2⟩ := inv4 hI k _ (i + 1) h
      obtain ⟨h3, h4⟩ := mx_le h1
      refine ⟨(mx_le h3).1, fun j hj hl => ?_⟩
      rcases Nat.lt_or_ge i j with hlt | hge
      · exact h2 j (by omega) hl
      · have : j = i := by omega
        subst this
        omega
    · rw [if_neg (by omega)] at h
      exact ⟨inv5 _ _ _ _ _ _ _ _ _ _ _ _ h, fun j hj hl => by omega⟩
def Four : Prop := ∃ k x, bastillelaw32_names.l4 k x I (I.length : Int) 0 a u M E I Wr L = some true
theorem inv0123 : ∀ k, (∀ x X n i, bastillelaw32_names.l0 k x X n i a u M E I Wr L = some true → Four a u M E I Wr L) ∧ (∀ x X n i Y m j, bastillelaw32_names.l1 k x X n i Y m j a u M E I Wr L = some true → Four a u M E I Wr L) ∧
    (∀ x X n i, bastillelaw32_names.l2 k x X n i a u M E I Wr L = some true → Four a u M E I Wr L) ∧ (∀ x X n i Y m j, bastillelaw32_names.l3 k x X n i Y m j a u M E I Wr L = some true → Four a u M E I Wr L)
  | 0 => ⟨fun x X n i h => by simp [bastillelaw32_names.l0] at h, fun x X n i Y m j h => by simp [bastillelaw32_names.l1] at h, fun x X n i h => by simp [bastillelaw32_names.l2] at h, fun x X n i Y m j h => by simp [bastillelaw32_names.l3] at h⟩
  | k + 1 => by
    obtain ⟨i0, i1, i2, i3⟩ := inv0123 k
    refine ⟨fun x X n i h => ?_, fun x X n i Y m j h => ?_, fun x X n i h => ?_, fun x X n i Y m j h => ?_⟩
    · simp only [bastillelaw32_names.l0] at h
      split at h
      · split at h
        · split at h
          · exact i1 _ _ _ _ _ _ _ h
          · cases h
        · cases h
      · exact i2 _ _ _ _ h
    · simp only [bastillelaw32_names.l1] at h
      split at h
      · split at h
        · split at h
          · exact i1 _ _ _ _ _ _ _ h
          · cases h
        · cases h
      · exact i0 _ _ _ _ h
    · simp only [bastillelaw32_names.l2] at h
      split at h
      · split at h
        · split at h
          · exact i3 _ _ _ _ _ _ _ h
          · cases h
        · cases h
      · exact ⟨k, x, h⟩
    · simp only [bastillelaw32_names.l3] at h
      split at h
      · split at h
        · split at h
          · exact i3 _ _ _ _ _ _ _ h
          · cases h
        · cases h
      · exact i2 _ _ _ _ h
end
theorem names_inv (f : S45) (hI : f.f4.length ≤ 9223372036854775807) (k : Nat) (h : bastillelaw32_names.f k f.f0 f.f1 f.f2 f.f3 f.f4 f.f5 f.f6 = some true) : ∀ x ∈ f.f4, x.f1.length ≤ 20 := by
  obtain ⟨k', x', h4⟩ := (inv0123 f.f0 f.f1 f.f2 f.f3 f.f4 f.f5 f.f6 k).1 _ _ _ _ h
  have := (inv4 f.f0 f.f1 f.f2 f.f3 f.f4 f.f5 f.f6 hI k' x' 0 h4).2
  intro x hx
  obtain ⟨j, hj, rfl⟩ := List.getElem_of_mem hx
  have h2 := this j (by omega) hj
  rw [show rd_T108 f.f4 (j : Int) = f.f4[j] by simp [rd_T108, List.getElem?_eq_getElem hj]] at h2
  exact h2
structure OkF (f : S45) : Prop where
  m : f.f2.length ≤ 100
  e : f.f3.length ≤ 100
  i : f.f4.length ≤ 100
  w : f.f5.length ≤ 100
  l : f.f6.length ≤ 100
  v : ∀ x ∈ f.f4, x.f1.length ≤ 20
theorem few2_inv (F : List S45) (hm : F.length ≤ 9223372036854775807) (hF : ∀ x ∈ F, g45 x) : ∀ (k : Nat) (x : Int) (i : Nat), 0 ≤ x → x ≤ 35184372088832 → bastillelaw32_Few.l2 k x F (F.length : Int) (i : Int) = some true →
    x ≤ 100 ∧ ∀ j, i ≤ j → j < F.length → OkF (rd_T45 F (j : Int))
  | 0, x, i, _, _, h => by simp [bastillelaw32_Few.l2] at h
  | k + 1, x, i, h0, h1, h => by
    simp only [bastillelaw32_Few.l2] at h
    by_cases hi : i < F.length
    · rw [if_pos (by omega), if_pos (by omega), if_pos (by omega)] at h
      have hg := hF _ (memD F z45 i hi)
      have e : F.getD (i : Int).toNat z45 = rd_T45 F (i : Int) := rfl
      rw [e] at hg
      obtain ⟨_, _, g2, g3, g4, g5, g6⟩ := hg
      have l2 := g2.1
      have l3 := g3.1
      have l4 := g4.1
      have l5 := g5.1
      have l6 := g6.1
      rw [w64i (x := x + _) (by omega) (by omega), w64i (x := x + _ + _) (by omega) (by omega), w64i (x := x + _ + _ + _) (by omega) (by omega), w64i (x := x + _ + _ + _ + _) (by omega) (by omega), w64i (x := x + _ + _ + _ + _ + _) (by omega) (by omega)] at h
      split at h
      · cases h
      · rename_i hle
        obtain ⟨t, ht, h⟩ := Option.bind_eq_some_iff.1 h
        split at h
        · rename_i htt
          subst htt
          rw [ix_next i (by omega)] at h
          obtain ⟨q1, q2⟩ := few2_inv F hm hF k _ (i + 1) (by omega) (by omega) h
          have hn := names_inv (rd_T45 F (i : Int)) (by omega) k ht
          refine ⟨by omega, fun j hj hl => ?_⟩
          rcases Nat.lt_or_ge i j with hlt | hge
          · exact q2 j (by omega) hl
          · have : j = i := by omega
            subst this
            exact ⟨by omega, by omega, by omega, by omega, by omega, hn⟩
        · cases h
    · rw [if_neg (by omega)] at h
      have hx : x ≤ 100 := by simpa using h
      exact ⟨hx, fun j hj hl => by omega⟩
theorem few1_inv (a : Int) (U : List S101) (D : List S103) (F : List S45) (n x : Int) (X : List S103) : ∀ (k : Nat) (i : Int), bastillelaw32_Few.l1 k x X n i a U D F = some true → F.length ≤ 8 ∧ ∃ k', bastillelaw32_Few.l2 k' x F (F.length : Int) 0 = some true
  | 0, i, h => by simp [bastillelaw32_Few.l1] at h
  | k + 1, i, h => by
    simp only [bastillelaw32_Few.l1] at h
    split at h
    · split at h
      · split at h
        · split at h
          · cases h
          · split at h
            · cases h
            · exact few1_inv a U D F n x X k _ h
        · cases h
      · cases h
    · split at h
      · cases h
      · exact ⟨by omega, k, h⟩
theorem few0_inv (a : Int) (U : List S101) (D : List S103) (F : List S45) (n x : Int) (X : List S101) : ∀ (k : Nat) (i : Int), bastillelaw32_Few.l0 k x X n i a U D F = some true → F.length ≤ 8 ∧ ∃ k', bastillelaw32_Few.l2 k' x F (F.length : Int) 0 = some true
  | 0, i, h => by simp [bastillelaw32_Few.l0] at h
  | k + 1, i, h => by
    simp only [bastillelaw32_Few.l0] at h
    split at h
    · split at h
      · split at h
        · split at h
          · cases h
          · exact few0_inv a U D F n x X k _ h
        · cases h
      · cases h
    · exact few1_inv _ _ _ _ _ _ _ _ _ h
theorem few_inv (a : Int) (U : List S101) (D : List S103) (F : List S45) (hU : U.length * 24 ≤ 140737488351232) (hD : D.length * 32 ≤ 140737488351232) (hF : ∀ x ∈ F, g45 x) (k : Nat) (h : bastillelaw32_Few.f k a U D F = some true) :
    U.length + D.length ≤ 100 ∧ F.length ≤ 8 ∧ ∀ f ∈ F, OkF f := by
  obtain ⟨h8, k', h2⟩ := few0_inv a U D F _ _ U k 0 h
  rw [w64i (by omega) (by omega)] at h2
  obtain ⟨q1, q2⟩ := few2_inv F (by omega) hF k' _ 0 (by omega) (by omega) h2
  refine ⟨by omega, h8, fun f hf => ?_⟩
  obtain ⟨j, hj, rfl⟩ := List.getElem_of_mem hf
  have := q2 j (by omega) hj
  rwa [show rd_T45 F (j : Int) = F[j] by simp [rd_T45, List.getElem?_eq_getElem hj]] at this
/-! ### the sums -/
theorem tot_le {α : Type} (f : α → Int) (c : Int) (l : List α) (h : ∀ x ∈ l, 0 ≤ f x ∧ f x ≤ c) : 0 ≤ tot f l ∧ tot f l ≤ c * l.length := by
  induction l with
  | nil => simp [tot]
  | cons x t ih =>
    have h1 := h x (by simp)
    have h2 := ih (fun y hy => h y (by simp [hy]))
    simp only [tot, List.length_cons]
    rw [show ((t.length + 1 : Nat) : Int) = (t.length : Int) + 1 by omega, Int.mul_add, Int.mul_one]
    omega
theorem sums (U : List S101) (D : List S103) (F : List S45) (h1 : U.length + D.length ≤ 100) (h2 : F.length ≤ 8) (h3 : ∀ f ∈ F, OkF f) : 0 ≤ smallS U D F ∧ smallS U D F ≤ 10000 ∧ 0 ≤ largeS F ∧ largeS F ≤ 100000 := by
  have t1 := tot_le one1 300 F (fun f hf => by
    have := (h3 f hf).i; have := (h3 f hf).w; have := (h3 f hf).l
    unfold one1; omega)
  have t2 := tot_le one2 3000 F (fun f hf => by
    have hm := (h3 f hf).m; have he := (h3 f hf).e; have hi := (h3 f hf).i
    have tv := tot_le vers 20 f.f4 (fun x hx => by have := (h3 f hf).v x hx; unfold vers; omega)
    unfold one2; omega)
  have hmn : 0 ≤ mn (F.length : Int) 1 ∧ mn (F.length : Int) 1 ≤ 1 := by unfold mn; split <;> omega
  unfold smallS largeS
  omega
theorem more_small (n : Nat) (U : List S101) (D : List S103) (F : List S45) : smallS U D (moreF n F) = smallS U D F := by
  unfold smallS
  rw [moreF_len]
  cases F with
  | nil => rfl
  | cons f t =>
    simp only [moreF, tot]
    have : one1 (moreO n f) = one1 f := by simp only [one1, moreO, moreI_len]
    rw [this]
theorem more_large (n : Nat) (F : List S45) (h1 : F.length ≠ 0) (h2 : (rd_T45 F ((0 : Nat) : Int)).f4.length ≠ 0) : largeS (moreF n F) = largeS F + n := by
  unfold largeS
  cases F with
  | nil => simp at h1
  | cons f t =>
    have e : rd_T45 (f :: t) ((0 : Nat) : Int) = f := rfl
    rw [e] at h2
    simp only [moreF, tot]
    have : one2 (moreO n f) = one2 f + n := by
      simp only [one2, moreO]
      cases hf : f.f4 with
      | nil => rw [hf] at h2; simp at h2
      | cons x r =>
        simp only [moreI, tot, vers, moreV, List.length_append, List.length_replicate]
        omega
    rw [this]
    omega
theorem small_of (F : List S45) (h2 : F.length ≤ 8) (h3 : ∀ f ∈ F, OkF f) : smallF F = true := by
  simp only [smallF, Bool.and_eq_true, decide_eq_true_eq, List.all_eq_true]
  exact ⟨by omega, fun f hf => ⟨by have := (h3 f hf).i; omega, fun x hx => by have := (h3 f hf).v x hx; omega⟩⟩
theorem left_ev (a : Int) (U : List S101) (D : List S103) (F : List S45) (hm : F.length ≤ 9223372036854775807) (hF : ∀ x ∈ F, x.f4.length ≤ 9223372036854775807) (q r B H : Int) (hB : wrap64 (120 * smallS U D F + 1020 * largeS F) = B) (hH : wrap64 (3 * smallS U D F + 18 * largeS F) = H)
    (h0 : 0 ≤ B) (h1 : 0 ≤ H) (hq : q ≤ 1048576) (hr : r ≤ 65535) : Ev (fun k => bound_Left.f k a U D F q r) (if B ≤ q ∧ H ≤ r then mn (mn ((q - B) / 1020) ((r - H) / 18)) 1048576 else 0) := by
  unfold bound_Left.f
  refine Ev.bind (fits_ev a U D F hm hF q r) ?_
  rw [hB, hH]
  by_cases hb : B > q
  · rw [show fitsS B H q r = 33 by simp [fitsS, hb], if_neg (show ¬ (B ≤ q ∧ H ≤ r) by omega)]
    simp only [if_neg (show ¬ (33 : Int) = 0 by decide)]
    exact Ev.now _
  by_cases hh : H > r
  · rw [show fitsS B H q r = 32 by simp [fitsS, hb, hh], if_neg (show ¬ (B ≤ q ∧ H ≤ r) by omega)]
    simp only [if_neg (show ¬ (32 : Int) = 0 by decide)]
    exact Ev.now _
  rw [show fitsS B H q r = 0 by simp [fitsS, hb, hh]]
  simp only [if_true]
  refine Ev.bind (bytes_ev a U D F hm hF) (Ev.bind (homes_ev a U D F hm hF) ?_)
  rw [hB, hH, show bound_takes.f 1020 = some 18 by decide +kernel]
  simp only [Option.bind_some, if_neg (show ¬ (18 : Int) = 0 by decide)]
  rw [w64i (x := q - B) (by omega) (by omega), w64i (x := r - H) (by omega) (by omega), Int.tdiv_eq_ediv_of_nonneg (by omega), Int.tdiv_eq_ediv_of_nonneg (by omega), w64i (by omega) (by omega), w64i (by omega) (by omega), if_pos (by omega)]
  exact Ev.now _
theorem mn_min (a b : Int) : mn a b = min a b := by unfold mn; split <;> omega
theorem awake_ev : Ev (fun k => bastillelaw33_awake.f k) true := Ev.of (fun k => bastillelaw33_awake.mono k) (k := 20) (by decide +kernel)
theorem BoundLeft : bastillelaw33_BoundLeft.Pure := by
  intro a U D F q r _ hU hD hF hq hr
  have hq' : 0 ≤ q ∧ q ≤ 4294967295 := by simpa [Lit.wf, IntKind.min, IntKind.max, IntKind.signed, IntKind.bits] using hq
  have hr' : 0 ≤ r ∧ r ≤ 65535 := by simpa [Lit.wf, IntKind.min, IntKind.max, IntKind.signed, IntKind.bits] using hr
  have hm : F.length ≤ 9223372036854775807 := by have := hF.1; omega
  refine Ev.rounds (r := true) ?_
  unfold bastillelaw33_BoundLeft.f
  refine Ev.bind awake_ev ?_
  simp only [if_true]
  obtain ⟨b, K, hb⟩ := few_total a U D F (by have := hU.1; omega) (by have := hD.1; omega) hm hF.2
  refine Ev.bind ⟨K, hb⟩ ?_
  cases b with
  | false => exact Ev.now _
  | true =>
    simp only [if_true]
    obtain ⟨f1, f2, f3⟩ := few_inv a U D F hU.1 hD.1 hF.2 K (hb K (Nat.le_refl _))
    have hs := sums U D F f1 f2 f3
    by_cases c1 : F.length = 0
    · simp only [if_pos c1]; exact Ev.now _
    by_cases c2 : (rd_T45 F ((0 : Nat) : Int)).f4.length = 0
    · simp only [if_neg c1, if_pos c2]; exact Ev.now _
    by_cases c3 : q > 1048576
    · simp only [if_neg c1, if_neg c2, if_pos c3]; exact Ev.now _
    simp only [if_neg c1, if_neg c2, if_neg c3]
    rw [w64i (x := q) (by omega) (by omega), w64i (x := r) (by omega) (by omega)]
    have hF4 : ∀ x ∈ F, x.f4.length ≤ 9223372036854775807 := fun x hx => by have := (f3 x hx).i; omega
    have hM4 : ∀ n, ∀ x ∈ moreF n F, x.f4.length ≤ 9223372036854775807 := fun n x hx => by
      cases hFF : F with
      | nil => rw [hFF] at hx; simp [moreF] at hx
      | cons f t =>
        rw [hFF] at hx hF4
        simp only [moreF, List.mem_cons] at hx
        rcases hx with rfl | hx
        · simp only [moreO, moreI_len]; exact hF4 f (by simp)
        · exact hF4 x (by simp [hx])
    have hMl : ∀ n, (moreF n F).length ≤ 9223372036854775807 := fun n => by rw [moreF_len]; exact hm
    have e1 : wrap64 (120 * smallS U D F + 1020 * largeS F) = 120 * smallS U D F + 1020 * largeS F := w64i (by omega) (by omega)
    have e2 : wrap64 (3 * smallS U D F + 18 * largeS F) = 3 * smallS U D F + 18 * largeS F := w64i (by omega) (by omega)
    have m1 : ∀ n : Nat, n ≤ 3000 → wrap64 (120 * smallS U D (moreF n F) + 1020 * largeS (moreF n F)) = 120 * smallS U D F + 1020 * largeS F + 1020 * n := fun n hn => by
      rw [more_small, more_large n F c1 c2, w64i (by omega) (by omega)]; omega
    have m2 : ∀ n : Nat, n ≤ 3000 → wrap64 (3 * smallS U D (moreF n F) + 18 * largeS (moreF n F)) = 3 * smallS U D F + 18 * largeS F + 18 * n := fun n hn => by
      rw [more_small, more_large n F c1 c2, w64i (by omega) (by omega)]; omega
    refine Ev.bind (left_ev a U D F hm hF4 q r _ _ e1 e2 (by omega) (by omega) (by omega) (by omega)) (Ev.bind (fits_ev a U D F hm hF4 q r) ?_)
    rw [e1, e2]
    generalize hB : 120 * smallS U D F + 1020 * largeS F = B at *
    generalize hH : 3 * smallS U D F + 18 * largeS F = H at *
    have hB0 : 0 ≤ B := by omega
    have hH0 : 0 ≤ H := by omega
    by_cases hfit : B ≤ q ∧ H ≤ r
    · rw [if_pos hfit, show fitsS B H q r = 0 by simp [fitsS]; omega]
      simp only [if_true]
      rw [mn_min, mn_min]
      obtain ⟨n, hn⟩ := Int.eq_ofNat_of_zero_le (show 0 ≤ min (min ((q - B) / 1020) ((r - H) / 18)) 1048576 by omega)
      rw [hn]
      have n1 : (n : Int) ≤ (q - B) / 1020 := by omega
      have n2 : (n : Int) ≤ (r - H) / 18 := by omega
      have n3 : ¬ ((n : Int) + 1 ≤ (q - B) / 1020 ∧ (n : Int) + 1 ≤ (r - H) / 18) := by omega
      have n4 : n ≤ 1100 := by omega
      simp only [if_pos (show (0 : Int) ≤ (n : Int) by omega), if_pos (show (n : Int) ≤ 2000 by omega), if_pos (small_of F f2 f3), Int.toNat_natCast]
      refine Ev.bind (fits_ev 0 U D (moreF n F) (hMl n) (hM4 n) q r) ?_
      rw [m1 n (by omega), m2 n (by omega), show fitsS (B + 1020 * n) (H + 18 * n) q r = 0 by simp [fitsS]; omega]
      simp only [if_true]
      refine Ev.bind (fits_ev 0 U D (moreF (n + 1) F) (hMl _) (hM4 _) q r) ?_
      rw [m1 (n + 1) (by omega), m2 (n + 1) (by omega)]
      have : fitsS (B + 1020 * ((n + 1 : Nat) : Int)) (H + 18 * ((n + 1 : Nat) : Int)) q r ≠ 0 := by
        unfold fitsS
        split
        · omega
        · split <;> omega
      simp only [if_neg this]
      exact Ev.now _
    · rw [if_neg hfit]
      have : fitsS B H q r ≠ 0 := by
        unfold fitsS
        split
        · omega
        · split <;> omega
      simp only [if_neg this, if_true]
      exact Ev.now _

end Go.Proofs.Ytealjhngfhlpaaa.Pure
