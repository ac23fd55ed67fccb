-- Written by drive.py of this work: the kit's print.py with contracts of this work laid in.
import Derived.Test.YtealjhngfhlpaaaPBoundLeftx0
namespace Go.Proofs.Ytealjhngfhlpaaa.PBoundLeft
open Go.RowKit Go.Proofs.YtealjhngfhlpaaaW.PrintWords Go.Proofs.YtealjhngfhlpaaaW.PrintLast Go.Proofs.YtealjhngfhlpaaaW.PrintMore
attribute [local go_sem] max2_int min2_int max_two min_two max_three min_three max_four min_four   -- for this text's walks alone
set_option linter.unusedVariables false
set_option linter.unusedSimpArgs false

/-! ### bastillelaw33_more: function 24 -/
--ALONE
theorem k167_openF {W : World} {ok : Nat → Prop} {x : S167} {cs : List Value} (h : Kd.FK k167 W ok x cs) : ∃ A3 c3, cs = [.int .i64 x.f0, .bool x.f1, .string x.f2, .slice A3 x.f3.length c3] ∧ x.f3.length ≤ c3 ∧ Kd.F (Kd.int .u8) W ok A3 x.f3.length x.f3 := by
  obtain ⟨A3, c3, rfl, l3, _⟩ := k167_open (Kd.FK_now h)
  exact ⟨A3, c3, rfl, l3, (fun W' hW => by obtain ⟨A3_, c3_, he, l3_, g3_⟩ := k167_open (h W' hW); injection (Option.some.inj (show some (Value.slice A3 x.f3.length c3) = some (Value.slice A3_ x.f3.length c3_) from congrArg (fun l => l[3]?) he)) with ha_ _ _; rw [ha_]; exact g3_)⟩
theorem k167_mkF (W : World) (ok : Nat → Prop) (x : S167) {A3 : Option Addr} {c3 : Nat} (l3 : x.f3.length ≤ c3) (g3 : Kd.F (Kd.int .u8) W ok A3 x.f3.length x.f3) : Kd.FK k167 W ok x [.int .i64 x.f0, .bool x.f1, .string x.f2, .slice A3 x.f3.length c3] := fun W2 hW => k167_mk W2 x l3 (g3 W2 hW)
theorem k108_openF {W : World} {ok : Nat → Prop} {x : S108} {cs : List Value} (h : Kd.FK k108 W ok x cs) : ∃ A1 c1, cs = [.string x.f0, .slice A1 x.f1.length c1] ∧ x.f1.length ≤ c1 ∧ Kd.F k167 W ok A1 x.f1.length x.f1 := by
  obtain ⟨A1, c1, rfl, l1, _⟩ := k108_open (Kd.FK_now h)
  exact ⟨A1, c1, rfl, l1, (fun W' hW => by obtain ⟨A1_, c1_, he, l1_, g1_⟩ := k108_open (h W' hW); injection (Option.some.inj (show some (Value.slice A1 x.f1.length c1) = some (Value.slice A1_ x.f1.length c1_) from congrArg (fun l => l[1]?) he)) with ha_ _ _; rw [ha_]; exact g1_)⟩
theorem k108_mkF (W : World) (ok : Nat → Prop) (x : S108) {A1 : Option Addr} {c1 : Nat} (l1 : x.f1.length ≤ c1) (g1 : Kd.F k167 W ok A1 x.f1.length x.f1) : Kd.FK k108 W ok x [.string x.f0, .slice A1 x.f1.length c1] := fun W2 hW => k108_mk W2 x l1 (g1 W2 hW)
theorem k45_openF {W : World} {ok : Nat → Prop} {x : S45} {cs : List Value} (h : Kd.FK k45 W ok x cs) : ∃ A2 c2 A3 c3 A4 c4 A5 c5 A6 c6, cs = [.string x.f0, .int .i64 x.f1, .slice A2 x.f2.length c2, .slice A3 x.f3.length c3, .slice A4 x.f4.length c4, .slice A5 x.f5.length c5, .slice A6 x.f6.length c6] ∧ x.f2.length ≤ c2 ∧ Kd.F k113 W ok A2 x.f2.length x.f2 ∧ x.f3.length ≤ c3 ∧ Kd.F k116 W ok A3 x.f3.length x.f3 ∧ x.f4.length ≤ c4 ∧ Kd.F k108 W ok A4 x.f4.length x.f4 ∧ x.f5.length ≤ c5 ∧ Kd.F k137 W ok A5 x.f5.length x.f5 ∧ x.f6.length ≤ c6 ∧ Kd.F k139 W ok A6 x.f6.length x.f6 := by
  obtain ⟨A2, c2, A3, c3, A4, c4, A5, c5, A6, c6, rfl, l2, _, l3, _, l4, _, l5, _, l6, _⟩ := k45_open (Kd.FK_now h)
  exact ⟨A2, c2, A3, c3, A4, c4, A5, c5, A6, c6, rfl, l2, (fun W' hW => by obtain ⟨A2_, c2_, A3_, c3_, A4_, c4_, A5_, c5_, A6_, c6_, he, l2_, g2_, l3_, g3_, l4_, g4_, l5_, g5_, l6_, g6_⟩ := k45_open (h W' hW); injection (Option.some.inj (show some (Value.slice A2 x.f2.length c2) = some (Value.slice A2_ x.f2.length c2_) from congrArg (fun l => l[2]?) he)) with ha_ _ _; rw [ha_]; exact g2_), l3, (fun W' hW => by obtain ⟨A2_, c2_, A3_, c3_, A4_, c4_, A5_, c5_, A6_, c6_, he, l2_, g2_, l3_, g3_, l4_, g4_, l5_, g5_, l6_, g6_⟩ := k45_open (h W' hW); injection (Option.some.inj (show some (Value.slice A3 x.f3.length c3) = some (Value.slice A3_ x.f3.length c3_) from congrArg (fun l => l[3]?) he)) with ha_ _ _; rw [ha_]; exact g3_), l4, (fun W' hW => by obtain ⟨A2_, c2_, A3_, c3_, A4_, c4_, A5_, c5_, A6_, c6_, he, l2_, g2_, l3_, g3_, l4_, g4_, l5_, g5_, l6_, g6_⟩ := k45_open (h W' hW); injection (Option.some.inj (show some (Value.slice A4 x.f4.length c4) = some (Value.slice A4_ x.f4.length c4_) from congrArg (fun l => l[4]?) he)) with ha_ _ _; rw [ha_]; exact g4_), l5, (fun W' hW => by obtain ⟨A2_, c2_, A3_, c3_, A4_, c4_, A5_, c5_, A6_, c6_, he, l2_, g2_, l3_, g3_, l4_, g4_, l5_, g5_, l6_, g6_⟩ := k45_open (h W' hW); injection (Option.some.inj (show some (Value.slice A5 x.f5.length c5) = some (Value.slice A5_ x.f5.length c5_) from congrArg (fun l => l[5]?) he)) with ha_ _ _; rw [ha_]; exact g5_), l6, (fun W' hW => by obtain ⟨A2_, c2_, A3_, c3_, A4_, c4_, A5_, c5_, A6_, c6_, he, l2_, g2_, l3_, g3_, l4_, g4_, l5_, g5_, l6_, g6_⟩ := k45_open (h W' hW); injection (Option.some.inj (show some (Value.slice A6 x.f6.length c6) = some (Value.slice A6_ x.f6.length c6_) from congrArg (fun l => l[6]?) he)) with ha_ _ _; rw [ha_]; exact g6_)⟩
theorem k45_mkF (W : World) (ok : Nat → Prop) (x : S45) {A2 : Option Addr} {c2 : Nat} (l2 : x.f2.length ≤ c2) (g2 : Kd.F k113 W ok A2 x.f2.length x.f2) {A3 : Option Addr} {c3 : Nat} (l3 : x.f3.length ≤ c3) (g3 : Kd.F k116 W ok A3 x.f3.length x.f3) {A4 : Option Addr} {c4 : Nat} (l4 : x.f4.length ≤ c4) (g4 : Kd.F k108 W ok A4 x.f4.length x.f4) {A5 : Option Addr} {c5 : Nat} (l5 : x.f5.length ≤ c5) (g5 : Kd.F k137 W ok A5 x.f5.length x.f5) {A6 : Option Addr} {c6 : Nat} (l6 : x.f6.length ≤ c6) (g6 : Kd.F k139 W ok A6 x.f6.length x.f6) : Kd.FK k45 W ok x [.string x.f0, .int .i64 x.f1, .slice A2 x.f2.length c2, .slice A3 x.f3.length c3, .slice A4 x.f4.length c4, .slice A5 x.f5.length c5, .slice A6 x.f6.length c6] := fun W2 hW => k45_mk W2 x l2 (g2 W2 hW) l3 (g3 W2 hW) l4 (g4 W2 hW) l5 (g5 W2 hW) l6 (g6 W2 hW)
def moreV (n : Nat) (x : S108) : S108 := ⟨x.f0, x.f1 ++ List.replicate n z167⟩
def moreI (n : Nat) : List S108 → List S108
  | [] => []
  | x :: t => moreV n x :: t
def moreO (n : Nat) (f : S45) : S45 := ⟨f.f0, f.f1, f.f2, f.f3, moreI n f.f4, f.f5, f.f6⟩
def moreF (n : Nat) : List S45 → List S45
  | [] => []
  | f :: t => moreO n f :: t
theorem moreI_len (n : Nat) (l : List S108) : (moreI n l).length = l.length := by cases l <;> rfl
theorem moreF_len (n : Nat) (l : List S45) : (moreF n l).length = l.length := by cases l <;> rfl
theorem more_take {α : Type} (l m : List α) (x : α) (i : Nat) (hl : m.length = l.length) (h : i < l.length) (hx : m[i]? = some x) : m.take (i + 1) = m.take i ++ [x] := by
  rw [List.take_add_one, hx]
  rfl
theorem more_F {d : Kd S45} {w w1 : World} {A : Option Addr} {n : Nat} {xs : List S45} (h : Kd.F d w (fun k => k < w.heap.size) A n xs) (hb : Below w.heap.size w w1) : Kd.F d w1 (fun k => k < w.heap.size) A n xs :=
  Kd.F_step h (fun k _ hlt => hb.block k hlt)

theorem k45_heap : Kd.Heap k45 := Kd.heap_iso _ (Kd.heap_pair Kd.heap_string (Kd.heap_pair (Kd.heap_int _) (Kd.heap_pair (Kd.heap_slice _ (Kd.heap_iso _ (Kd.heap_pair Kd.heap_string (Kd.heap_pair (Kd.heap_int _) (Kd.heap_pair (Kd.heap_slice _ (Kd.heap_int _)) (Kd.heap_pair Kd.heap_string (Kd.heap_pair (Kd.heap_slice _ (Kd.heap_iso _ (Kd.heap_pair Kd.heap_string (Kd.heap_int _)))) (Kd.heap_pair (Kd.heap_int _) (Kd.heap_pair Kd.heap_bool Kd.heap_string)))))))))
  (Kd.heap_pair (Kd.heap_slice _ (Kd.heap_iso _ (Kd.heap_pair (Kd.heap_int _) (Kd.heap_pair (Kd.heap_int _) (Kd.heap_pair (Kd.heap_int _) (Kd.heap_pair (Kd.heap_slice _ (Kd.heap_iso _ (Kd.heap_pair Kd.heap_string (Kd.heap_int _)))) Kd.heap_string))))))
  (Kd.heap_pair (Kd.heap_slice _ (Kd.heap_iso _ (Kd.heap_pair Kd.heap_string (Kd.heap_slice _ (Kd.heap_iso _ (Kd.heap_pair (Kd.heap_int _) (Kd.heap_pair Kd.heap_bool (Kd.heap_pair Kd.heap_string (Kd.heap_slice _ (Kd.heap_int _))))))))))
  (Kd.heap_pair (Kd.heap_slice _ (Kd.heap_iso _ (Kd.heap_pair Kd.heap_string (Kd.heap_pair (Kd.heap_int _) Kd.heap_bool)))) (Kd.heap_slice _ (Kd.heap_iso _ (Kd.heap_pair (Kd.heap_int _) (Kd.heap_pair Kd.heap_string (Kd.heap_int _)))))))))))
def cells45 (x : S45) (A2 : Option Addr) (c2 : Nat) (A3 : Option Addr) (c3 : Nat) (A4 : Option Addr) (c4 : Nat) (A5 : Option Addr) (c5 : Nat) (A6 : Option Addr) (c6 : Nat) : List Value :=
  [.string x.f0, .int .i64 x.f1, .slice A2 x.f2.length c2, .slice A3 x.f3.length c3, .slice A4 x.f4.length c4, .slice A5 x.f5.length c5, .slice A6 x.f6.length c6]
theorem at_F45 {w : World} {ok : Nat → Prop} {A : Option Addr} {n : Nat} {xs : List S45} (h : Kd.F k45 w ok A n xs) (i : Nat) (h1 : i < n) : ∃ ad A2 c2 A3 c3 A4 c4 A5 c5 A6 c6, A = some ad ∧
    w.cell? (ad.add (i * 7)) = some (.string (rd_T45 xs i).f0) ∧ w.cell? ⟨(ad.add (i * 7)).block, (ad.add (i * 7)).off + 1, none⟩ = some (.int .i64 (rd_T45 xs i).f1) ∧ w.cell? ⟨(ad.add (i * 7)).block, (ad.add (i * 7)).off + 2, none⟩ = some (.slice A2 (rd_T45 xs i).f2.length c2) ∧ w.cell? ⟨(ad.add (i * 7)).block, (ad.add (i * 7)).off + 3, none⟩ = some (.slice A3 (rd_T45 xs i).f3.length c3) ∧ w.cell? ⟨(ad.add (i * 7)).block, (ad.add (i * 7)).off + 4, none⟩ = some (.slice A4 (rd_T45 xs i).f4.length c4) ∧ w.cell? ⟨(ad.add (i * 7)).block, (ad.add (i * 7)).off + 5, none⟩ = some (.slice A5 (rd_T45 xs i).f5.length c5) ∧ w.cell? ⟨(ad.add (i * 7)).block, (ad.add (i * 7)).off + 6, none⟩ = some (.slice A6 (rd_T45 xs i).f6.length c6) ∧ Kd.FK k45 w ok (rd_T45 xs i) (cells45 (rd_T45 xs i) A2 c2 A3 c3 A4 c4 A5 c5 A6 c6) ∧ (rd_T45 xs i).f4.length ≤ c4 ∧ Kd.F k108 w ok A4 (rd_T45 xs i).f4.length (rd_T45 xs i).f4 := by
  obtain ⟨ad, c, e, _, hK, hc, _⟩ := Kd.F_get h z45 (i : Int) (by omega) (by omega)
  simp only [Int.toNat_natCast] at hK hc
  have hK' := hK
  obtain ⟨A2, c2, A3, c3, A4, c4, A5, c5, A6, c6, rfl, _, _, _, _, lI, gI, _⟩ := k45_openF hK
  refine ⟨ad, A2, c2, A3, c3, A4, c4, A5, c5, A6, c6, e, ?_, ?_, ?_, ?_, ?_, ?_, ?_, hK', lI, gI⟩
  · exact hc 0 _ rfl
  all_goals rw [← add_field _ _ _ (by omega)]
  · exact hc 1 _ rfl
  · exact hc 2 _ rfl
  · exact hc 3 _ rfl
  · exact hc 4 _ rfl
  · exact hc 5 _ rfl
  · exact hc 6 _ rfl
def B4 (w : World) (g : Nat) (u0 u1 u2 u3 : Value) : Prop := w.heap[g]? = some (.cells #[u0, u1, u2, u3] 35 (0, 0))
theorem b4_cells {g : Nat} {w : World} {u0 u1 u2 u3 : Value} (h : B4 w g u0 u1 u2 u3) : w.cell? ⟨g, 0, none⟩ = some u0 ∧ w.cell? ⟨g, 1, none⟩ = some u1 ∧ w.cell? ⟨g, 2, none⟩ = some u2 ∧ w.cell? ⟨g, 3, none⟩ = some u3 ∧ w.frozen? ⟨g, 0, none⟩ = false ∧ w.frozen? ⟨g, 1, none⟩ = false ∧ w.frozen? ⟨g, 2, none⟩ = false ∧ w.frozen? ⟨g, 3, none⟩ = false :=
  ⟨(blk_cell h 0).trans rfl, (blk_cell h 1).trans rfl, (blk_cell h 2).trans rfl, (blk_cell h 3).trans rfl, blk_frozen h 0, blk_frozen h 1, blk_frozen h 2, blk_frozen h 3⟩

theorem at_F108 {w : World} {ok : Nat → Prop} {A : Option Addr} {n : Nat} {xs : List S108} (h : Kd.F k108 w ok A n xs) (i : Nat) (h1 : i < n) : ∃ ad A1 c1, A = some ad ∧
    w.cell? (ad.add (i * 2)) = some (.string (rd_T108 xs i).f0) ∧ w.cell? ⟨(ad.add (i * 2)).block, (ad.add (i * 2)).off + 1, none⟩ = some (.slice A1 (rd_T108 xs i).f1.length c1) ∧ Kd.FK k108 w ok (rd_T108 xs i) [.string (rd_T108 xs i).f0, .slice A1 (rd_T108 xs i).f1.length c1] ∧ (rd_T108 xs i).f1.length ≤ c1 ∧ Kd.F k167 w ok A1 (rd_T108 xs i).f1.length (rd_T108 xs i).f1 := by
  obtain ⟨ad, c, e, _, hK, hc, _⟩ := Kd.F_get h z108 (i : Int) (by omega) (by omega)
  simp only [Int.toNat_natCast] at hK hc
  have hK' := hK
  obtain ⟨A1, c1, rfl, lI, gI⟩ := k108_openF hK
  refine ⟨ad, A1, c1, e, ?_, ?_, hK', lI, gI⟩
  · exact hc 0 _ rfl
  · rw [← add_field _ _ _ (by omega)]
    exact hc 1 _ rfl
theorem msize (w : World) (o : Obj) : (w.alloc o).heap.size = w.heap.size + 1 := Array.size_push _

theorem more_get (n : Nat) (l : List S45) (i : Nat) (h : i < l.length) (h0 : ¬ i = 0) : (moreF n l)[i]? = some (rd_T45 l i) := by
  cases l with
  | nil => simp at h
  | cons f t =>
    obtain ⟨j, rfl⟩ : ∃ j, i = j + 1 := ⟨i - 1, by omega⟩
    simp only [moreF, List.getElem?_cons_succ, rd_T45, Int.toNat_natCast, List.getD_eq_getElem?_getD]
    simp at h
    rw [List.getElem?_eq_getElem h]
    rfl

theorem more_fin {w wr : World} {AN : Option Addr} {cN m : Nat} {xs : List S45} (hN : Kd.N k45 45 wr w.heap.size (fun k => k ≠ w.heap.size + 1 ∧ k ≠ w.heap.size + 1 + 1) (.slice AN m cN) (xs.take m)) (hl : xs.length = m) {u0 u1 u2 u3 : Value} (K4 : B4 wr (w.heap.size + 1) u0 u1 u2 u3) (HB : Below w.heap.size w wr) (A1 : Option Addr) (n1 c1 : Nat) (A2 : Option Addr) (n2 c2 : Nat) :
    m ≤ cN ∧ Kd.C k45 ((((wr.setCell ⟨w.heap.size + 1, 0, none⟩ (.int .i64 0)).setCell ⟨w.heap.size + 1, 1, none⟩ (.slice A1 n1 c1)).setCell ⟨w.heap.size + 1, 2, none⟩ (.slice A2 n2 c2)).setCell ⟨w.heap.size + 1, 3, none⟩ (.slice AN m cN)) AN m xs ∧ Below w.heap.size w ((((wr.setCell ⟨w.heap.size + 1, 0, none⟩ (.int .i64 0)).setCell ⟨w.heap.size + 1, 1, none⟩ (.slice A1 n1 c1)).setCell ⟨w.heap.size + 1, 2, none⟩ (.slice A2 n2 c2)).setCell ⟨w.heap.size + 1, 3, none⟩ (.slice AN m cN)) := by
  rw [List.take_of_length_le (by omega)] at hN
  have f : ∀ k, (k ≠ w.heap.size + 1 ∧ k ≠ w.heap.size + 1 + 1) → k ≠ w.heap.size + 1 := fun k hk => hk.1
  have h := Kd.N_far (Kd.N_far (Kd.N_far (Kd.N_far hN (p := ⟨w.heap.size + 1, 0, none⟩) f (.int .i64 0)) (p := ⟨w.heap.size + 1, 1, none⟩) f (.slice A1 n1 c1)) (p := ⟨w.heap.size + 1, 2, none⟩) f (.slice A2 n2 c2)) (p := ⟨w.heap.size + 1, 3, none⟩) f (.slice AN m cN)
  have h2 := Kd.N_reads' h
  have h3 := h2.2.2
  rw [hl] at h3
  refine ⟨h2.2.1, h3, ?_⟩
  have e : w.heap.size ≤ w.heap.size + 1 := Nat.le_succ _
  exact (((HB.setCell e _).setCell e _).setCell e _).setCell e _

theorem put4b {w : World} {g : Nat} {u0 u1 u2 u3 : Value} (h : B4 w g u0 u1 u2 u3) (v0 v1 v2 v3 : Value) : ((((w.setCell ⟨g, 0, none⟩ v0).setCell ⟨g, 1, none⟩ v1).setCell ⟨g, 2, none⟩ v2).setCell ⟨g, 3, none⟩ v3).heap[g]? = some (.cells #[v0, v1, v2, v3] 35 (0, 0)) :=
  blk_set (blk_set (blk_set (blk_set h 0 v0) 1 v1) 2 v2) 3 v3

theorem moreI_get (n : Nat) (l : List S108) (i : Nat) (h : i < l.length) (h0 : ¬ i = 0) : (moreI n l)[i]? = some (rd_T108 l i) := by
  cases l with
  | nil => simp at h
  | cons f t =>
    obtain ⟨j, rfl⟩ : ∃ j, i = j + 1 := ⟨i - 1, by omega⟩
    simp only [moreI, List.getElem?_cons_succ, rd_T108, Int.toNat_natCast, List.getD_eq_getElem?_getD]
    simp at h
    rw [List.getElem?_eq_getElem h]
    rfl
theorem moreI_get0 (n : Nat) (l : List S108) (i : Nat) (h : i < l.length) (h0 : i = 0) : (moreI n l)[i]? = some (moreV n (rd_T108 l i)) := by
  subst h0
  cases l with
  | nil => simp at h
  | cons f t => rfl
theorem moreF_get0 (n : Nat) (l : List S45) (i : Nat) (h : i < l.length) (h0 : i = 0) : (moreF n l)[i]? = some (moreO n (rd_T45 l i)) := by
  subst h0
  cases l with
  | nil => simp at h
  | cons f t => rfl

theorem F_old3 {α : Type} {d : Kd α} {w wr w1 : World} {A : Option Addr} {n : Nat} {xs : List α} (h : Kd.F d wr (fun k => k < w.heap.size) A n xs) (hb : Below w.heap.size w wr) (hb' : Below w.heap.size w w1) : Kd.F d w1 (fun k => k < w.heap.size) A n xs :=
  Kd.F_step h (fun k hk _ => (hb'.block k hk).trans (hb.block k hk).symm)

theorem rd45_mem (l : List S45) (i : Nat) (h : i < l.length) : rd_T45 l (i : Int) ∈ l := by
  simp only [rd_T45, Int.toNat_natCast, List.getD_eq_getElem?_getD, List.getElem?_eq_getElem h, Option.getD_some]
  exact List.getElem_mem h
theorem rd108_mem (l : List S108) (i : Nat) (h : i < l.length) : rd_T108 l (i : Int) ∈ l := by
  simp only [rd_T108, Int.toNat_natCast, List.getD_eq_getElem?_getD, List.getElem?_eq_getElem h, Option.getD_some]
  exact List.getElem_mem h

theorem more_FK (n : Nat) {w w9 : World} {x : S45} {B2 e2 B3 e3 BI e4 B5 e5 B6 e6} {gq m : Nat} {AI : Option Addr} {cI : Nat} {items : List S108} (h : Kd.FK k45 w9 (fun k => k < w.heap.size) x (cells45 x B2 e2 B3 e3 BI e4 B5 e5 B6 e6))
    (hN : Kd.N k108 108 w9 w.heap.size (fun k => k ≠ w.heap.size + 1 ∧ k ≠ w.heap.size + 1 + 1 ∧ k ≠ gq) (.slice AI m cI) (moreI n items)) (hit : x.f4 = items) :
    Kd.FK k45 w9 (fun k => k ≠ w.heap.size + 1 ∧ k ≠ w.heap.size + 1 + 1) (moreO n x) [.string x.f0, .int .i64 x.f1, .slice B2 x.f2.length e2, .slice B3 x.f3.length e3, .slice AI m cI, .slice B5 x.f5.length e5, .slice B6 x.f6.length e6] := by
  subst hit
  obtain ⟨A2, c2, A3, c3, A4, c4, A5, c5, A6, c6, he, l2, g2, l3, g3, l4, g4, l5, g5, l6, g6⟩ := k45_openF h
  simp only [cells45, List.cons.injEq, Value.slice.injEq, true_and, and_true] at he
  obtain ⟨⟨rfl, rfl⟩, ⟨rfl, rfl⟩, ⟨rfl, rfl⟩, ⟨rfl, rfl⟩, rfl, rfl⟩ := he
  have hn := Kd.N_reads' hN
  have hm := hn.1
  subst hm
  have up : ∀ k, k < w.heap.size → k ≠ w.heap.size + 1 ∧ k ≠ w.heap.size + 1 + 1 := fun k hk => by omega
  exact k45_mkF w9 _ (moreO n x) l2 (Kd.F_mono g2 up) l3 (Kd.F_mono g3 up) (A4 := AI) hn.2.1 (Kd.F_mono (Kd.N_F hN) (fun k hk => ⟨hk.1, hk.2.1⟩)) l5 (Kd.F_mono g5 up) l6 (Kd.F_mono g6 up)

theorem more_okp {w wr wb : World} {v : Value} {ok : Nat → Prop} (h : Kd.N k167 167 wb wr.heap.size ok v []) (hs : w.heap.size ≤ wr.heap.size) : ∀ k, k < w.heap.size → (k < w.heap.size ∨ wr.heap.size < k) ∧ some k ≠ v.ownBlock :=
  fun k hk => ⟨.inl hk, fun e => by have := Kd.N_base h k e.symm; omega⟩
theorem more_len1 {l : List S167} (h : l.length ≤ 1000000) : (([] : List S167).length + l.length) * 56 ≤ 140737488355328 := by simp; omega
theorem more_len2 {l : List S167} {n : Nat} (h : l.length ≤ 1000000) (hn : n ≤ 1000000) : ((([] : List S167) ++ l).length + (n : Int).toNat) * 56 ≤ 140737488355328 := by simp; omega
set_option maxHeartbeats 4000000 in
set_option maxRecDepth 100000 in
theorem more_calls (a0 : Int) (A1 : Option Addr) (n1 c1 : Nat) (A2 : Option Addr) (n2 c2 : Nat) (A3 : Option Addr) (c3 : Nat) (l3 : List S45) (n : Nat) (w : World) (hr3 : Kd.C k45 w A3 l3.length l3) (hc3 : l3.length ≤ c3)
    (hl3 : l3.length ≤ 1000000) (hI : ∀ f ∈ l3, f.f4.length ≤ 1000000 ∧ ∀ x ∈ f.f4, x.f1.length ≤ 1000000) (hn : n ≤ 1000000) :
    Calls Try.prog 24 #[.agg #[.int .i64 a0, .slice A1 n1 c1, .slice A2 n2 c2, .slice A3 l3.length c3], .int .i64 n] w fun e w' => ∃ A c, e = .returned (.agg #[.int .i64 0, .slice A1 n1 c1, .slice A2 n2 c2, .slice A l3.length c]) ∧ l3.length ≤ c ∧ Kd.C k45 w' A l3.length (moreF n l3) ∧ Below w.heap.size w w' := by
  have HF := Aside0.mk (Kd.C_F k45_heap hr3)
  have HI := Aside0.mk hI
  have HL := Aside0.mk hl3
  have HN := Aside0.mk hn
  have HC := Aside0.mk hc3
  clear hr3 hI hc3
  go_enter Try.func24, Try.ntmps24
  go_wp2_with fail
  have HB0 : Below w.heap.size w (((w.alloc (.cells #[.int .i64 a0, .slice A1 n1 c1, .slice A2 n2 c2, .slice A3 l3.length c3] 35)).alloc (.cells #[.int .i64 0, .slice none 0 0, .slice none 0 0, .slice none 0 0] 35)).alloc (.cells #[.int .i64 0, .slice A1 n1 c1, .slice A2 n2 c2, .slice none 0 0] 35)) :=
    below_alloc (below_alloc (below_alloc (Below.refl _ _) _) _) _
  have K4 : B4 (((w.alloc (.cells #[.int .i64 a0, .slice A1 n1 c1, .slice A2 n2 c2, .slice A3 l3.length c3] 35)).alloc (.cells #[.int .i64 0, .slice none 0 0, .slice none 0 0, .slice none 0 0] 35)).alloc (.cells #[.int .i64 0, .slice A1 n1 c1, .slice A2 n2 c2, .slice none 0 0] 35)) (w.heap.size + 1) (.int .i64 0) (.slice none 0 0) (.slice none 0 0) (.slice none 0 0) :=
    blk_alloc (by rw [← msize w (.cells #[.int .i64 a0, .slice A1 n1 c1, .slice A2 n2 c2, .slice A3 l3.length c3] 35)]; exact Array.getElem?_push_size) _
  have K5 : B4 (((w.alloc (.cells #[.int .i64 a0, .slice A1 n1 c1, .slice A2 n2 c2, .slice A3 l3.length c3] 35)).alloc (.cells #[.int .i64 0, .slice none 0 0, .slice none 0 0, .slice none 0 0] 35)).alloc (.cells #[.int .i64 0, .slice A1 n1 c1, .slice A2 n2 c2, .slice none 0 0] 35)) (w.heap.size + 1 + 1) (.int .i64 0) (.slice A1 n1 c1) (.slice A2 n2 c2) (.slice none 0 0) := by
    rw [← msize w (.cells #[.int .i64 a0, .slice A1 n1 c1, .slice A2 n2 c2, .slice A3 l3.length c3] 35), ← msize (w.alloc (.cells #[.int .i64 a0, .slice A1 n1 c1, .slice A2 n2 c2, .slice A3 l3.length c3] 35)) (.cells #[.int .i64 0, .slice none 0 0, .slice none 0 0, .slice none 0 0] 35)]
    exact Array.getElem?_push_size
  have HB0' := Aside0.mk HB0
  have K4' := Aside0.mk K4
  have K5' := Aside0.mk K5
  clear HB0 K4 K5
  go_loopg [19] l3.length (fun g v19 wr => ∃ (i : Nat) (vF : Value), g + i = l3.length ∧ v19 = .int .i64 i ∧ Aside0 (Below w.heap.size w wr) ∧ Aside0 (B4 wr (w.heap.size + 1) (.int .i64 0) (.slice none 0 0) (.slice none 0 0) (.slice none 0 0)) ∧ Aside0 (B4 wr (w.heap.size + 1 + 1) (.int .i64 0) (.slice A1 n1 c1) (.slice A2 n2 c2) vF) ∧ Aside0 (Kd.N k45 45 wr w.heap.size (fun k => k ≠ w.heap.size + 1 ∧ k ≠ w.heap.size + 1 + 1) vF ((moreF n l3).take i)) ∧ (i = 0 → vF = .slice none 0 0))
  case atStart => exact ⟨0, .slice none 0 0, by omega, rfl, HB0', K4', K5', ⟨Kd.N_nil _ _ _ _ _⟩, fun _ => rfl⟩
  case round =>
    obtain ⟨i, vF, hi, rfl, HB, K4, K5, NF, hnil⟩ := hrel
    have NIL := Aside0.mk hnil
    clear hnil
    clear HB0' K4' K5'
    by_cases hlt : i < l3.length
    · have q1 : (i : Int) < (l3.length : Int) := Int.ofNat_lt.2 hlt
      have q0 : (0 : Int) ≤ (i : Int) := Int.natCast_nonneg i
      obtain ⟨ad, B2, e2, B3, e3, BI, e4, B5, e5, B6, e6, rfl, h0, h1, h2, h3, h4, h5, h6, FKi, lI, FI⟩ := at_F45 (more_F HF.out HB.out) i hlt
      have FK' := Aside0.mk FKi
      clear FKi
      by_cases hi0 : i = 0
      · have t0 : ((i : Int) == 0) = true := beq_iff_eq.2 (by omega)
        have hi0' := Aside0.mk hi0
        have FI' := Aside0.mk FI
        have LI' := Aside0.mk lI
        obtain rfl := NIL.out hi0
        have q2 : (0 : Int) ≤ ((rd_T45 l3 i).f4.length : Int) := Int.natCast_nonneg _
        have LI := Aside0.mk (show (rd_T45 l3 i).f4.length ≤ 1000000 ∧ ∀ x ∈ (rd_T45 l3 i).f4, x.f1.length ≤ 1000000 from HI.out _ (rd45_mem l3 i hlt))
        have HLT := Aside0.mk hlt
        have HI2 := Aside0.mk hi
        clear hi0 FI lI NIL hi
        have K5o := Aside0.mk K5.out
        go_wp2_with fail
        generalize hw2 : wr.alloc _ = w2
        have HB2 := Aside0.mk (show Below w.heap.size w w2 by rw [← hw2]; exact below_alloc HB.out _)
        have K4b := Aside0.mk (show B4 w2 (w.heap.size + 1) (.int .i64 0) (.slice none 0 0) (.slice none 0 0) (.slice none 0 0) by rw [← hw2]; exact blk_alloc K4.out _)
        have K5b := Aside0.mk (show B4 w2 (w.heap.size + 1 + 1) (.int .i64 0) (.slice A1 n1 c1) (.slice A2 n2 c2) (.slice none 0 0) by rw [← hw2]; exact blk_alloc K5.out _)
        have NFb := Aside0.mk (show Kd.N k45 45 w2 w.heap.size (fun k => k ≠ w.heap.size + 1 ∧ k ≠ w.heap.size + 1 + 1) (.slice none 0 0) ((moreF n l3).take i) by rw [← hw2]; exact Kd.N_alloc NF.out _)
        have G7 : w2.heap[wr.heap.size]? = some (.cells #[.string (rd_T45 l3 i).f0, .int .i64 (rd_T45 l3 i).f1, .slice B2 (rd_T45 l3 i).f2.length e2, .slice B3 (rd_T45 l3 i).f3.length e3, .slice BI (rd_T45 l3 i).f4.length e4, .slice B5 (rd_T45 l3 i).f5.length e5, .slice B6 (rd_T45 l3 i).f6.length e6] 45 (0, 0)) := by rw [← hw2]; exact Array.getElem?_push_size
        have FKb := Aside0.mk (show Kd.FK k45 w2 (fun k => k < w.heap.size) (rd_T45 l3 i) (cells45 (rd_T45 l3 i) B2 e2 B3 e3 BI e4 B5 e5 B6 e6) by rw [← hw2]; exact Kd.FK_below FK'.out (below_alloc (Below.refl _ _) _))
        clear hw2 K4 K5 NF FK' h0 h1 h2 h3 h4 h5 h6
        have hg7 : w.heap.size + 1 + 1 < wr.heap.size := by have := blk_lt G7; have := HB.out.size; have := blk_lt K5o.out; omega
        have HG7 := Aside0.mk hg7
        generalize wr.heap.size = gq at *
        have GG := Aside0.mk G7
        clear G7 hg7 hlt
        generalize hit : (rd_T45 l3 i).f4 = items at *
        have HIT := Aside0.mk hit
        clear hit
        go_loopg [8, 29] items.length (fun g v8 v29 wq => ∃ (j : Nat) (vI : Value), g + j = items.length ∧ vI = v8 ∧ v29 = .int .i64 j ∧ Aside0 (Below w.heap.size w wq) ∧ Aside0 (B4 wq (w.heap.size + 1) (.int .i64 0) (.slice none 0 0) (.slice none 0 0) (.slice none 0 0)) ∧ Aside0 (B4 wq (w.heap.size + 1 + 1) (.int .i64 0) (.slice A1 n1 c1) (.slice A2 n2 c2) (.slice none 0 0)) ∧ Aside0 (wq.heap[gq]? = some (.cells #[.string (rd_T45 l3 i).f0, .int .i64 (rd_T45 l3 i).f1, .slice B2 (rd_T45 l3 i).f2.length e2, .slice B3 (rd_T45 l3 i).f3.length e3, .slice BI items.length e4, .slice B5 (rd_T45 l3 i).f5.length e5, .slice B6 (rd_T45 l3 i).f6.length e6] 45 (0, 0))) ∧ Aside0 (Kd.N k108 108 wq w.heap.size (fun k => k ≠ w.heap.size + 1 ∧ k ≠ w.heap.size + 1 + 1 ∧ k ≠ gq) vI ((moreI n items).take j)))
        case atStart => exact ⟨0, .slice none 0 0, by omega, rfl, rfl, HB2, K4b, K5b, GG, ⟨Kd.N_nil _ _ _ _ _⟩⟩
        case round =>
          obtain ⟨j, vI, hj, rfl, rfl, HBq, K4q, K5q, G7q, NI⟩ := hrel
          have HJ := Aside0.mk hj
          clear hj
          by_cases hjl : j < items.length
          · have r1 : (j : Int) < (items.length : Int) := Int.ofNat_lt.2 hjl
            have r0 : (0 : Int) ≤ (j : Int) := Int.natCast_nonneg j
            obtain ⟨ai, AV, cV, rfl, k0, k1, FKj, lV, FV⟩ := at_F108 (F_old3 FI'.out HB.out HBq.out) j hjl
            have FKj' := Aside0.mk FKj
            have FV' := Aside0.mk FV
            have LV' := Aside0.mk lV
            clear FKj FV lV
            by_cases hj0 : j = 0
            · have s0 : ((j : Int) == 0) = true := beq_iff_eq.2 (by omega)
              have HJ0 := Aside0.mk hj0
              clear hj0
              go_upto_region 11 with (fail)
              generalize hwa : wr.alloc _ = wa
              have HA := Aside0.mk (show Below wr.heap.size wr wa by rw [← hwa]; exact below_alloc (Below.refl _ _) _)
              have GA := Aside0.mk (show wa.heap[wr.heap.size]? = some (.cells #[.string (rd_T108 items j).f0, .slice AV (rd_T108 items j).f1.length cV] 108 (0, 0)) by rw [← hwa]; exact Array.getElem?_push_size)
              have FA := Aside0.mk (show Kd.F k167 wa (fun k => k < w.heap.size) AV (rd_T108 items j).f1.length (rd_T108 items j).f1 by rw [← hwa]; exact Kd.F_alloc FV'.out _)
              have LX := Aside0.mk (show (rd_T108 items j).f1.length ≤ 1000000 from LI.out.2 _ (rd108_mem items j hjl))
              have hfa := Aside0.mk (show (fun k => k < w.heap.size ∨ wr.heap.size < k) wa.heap.size from .inr (blk_lt GA.out))
              have hfb := Aside0.mk (show ∀ k, wa.heap.size ≤ k → k < w.heap.size ∨ wr.heap.size < k from fun k hk => .inr (Nat.lt_of_lt_of_le (blk_lt GA.out) hk))
              have NE := Aside0.mk (show ∀ k, (k < w.heap.size ∨ wr.heap.size < k) → k ≠ wr.heap.size from fun k hk => by have := HBq.out.size; omega)
              clear hwa k0 k1
              go_upto_region 12 with (first
                | ((with_reducible refine gate_dst (N := 36) rfl ?_); refine Kd.N_lit k167 (w0 := wr) wr.heap.size 167 ?hg (N' := 36) ?hd (xs := []) (inner := []) (ok := fun k => k < w.heap.size ∨ wr.heap.size < k) (okp := fun _ => False) ?hr (Reps.none _ _) (fun _ hk => hk.elim) hfa.out HA.out HA.out.size (by simp) ?_; (case hd => rfl); (case hg => rfl); (case hr => first | (go_simp; done) | (go_simp; rfl)); intro v36 wb hN hB hg hat; have NB := Aside0.mk hN; have HBB := Aside0.mk hB; have GB := Aside0.mk (blk_grown GA.out hg (by simp)); have FB := Aside0.mk (Kd.F_grown FA.out hg (fun k _ => by simp)); have hfc := Aside0.mk (show ∀ k, wb.heap.size ≤ k → k < w.heap.size ∨ wr.heap.size < k from fun k hk => hfb.out k (Nat.le_trans hg.size hk)); clear hN hB hg hat GA FA HA; have k1 := (blk_cell GB.out 1).trans rfl; trace "l2")
                | (at_builtin; refine Kd.N_append_rows k167 (w0 := wr) wr.heap.size rfl (.tmp 36) (.tmp 38) 106 167 (.agg #[.int .i64 0, .bool false, .string ⟨#[]⟩, .slice none 0 0]) 56 rfl Try.underlying106 (by kernel_rfl) rfl (by decide) (by decide) v36 [] (rd_T108 items j).f1 AV (rd_T108 items j).f1.length cV (fun k => k < w.heap.size ∨ wr.heap.size < k) (fun k => k < w.heap.size) rfl rfl NB.out FB.out (more_okp NB.out HBq.out.size) hfc.out HBB.out HBB.out.size (more_len1 LX.out) ?_; intro v39 wc hN hB hg hat; have NC := Aside0.mk hN; have HCC := Aside0.mk hB; have GC := Aside0.mk (blk_grown GB.out hg (Kd.N_away NB.out NE.out)); have hfd := Aside0.mk (show ∀ k, wc.heap.size ≤ k → k < w.heap.size ∨ wr.heap.size < k from fun k hk => hfc.out k (Nat.le_trans hg.size hk)); clear hN hB hg hat NB HBB GB FB k1)
                | (at_builtin; refine Kd.N_append_zeros k167 (w0 := wr) wr.heap.size rfl (.tmp 39) (.tmp 40) 106 3 167 (.agg #[.int .i64 0, .bool false, .string ⟨#[]⟩, .slice none 0 0]) 56 rfl Try.underlying106 Try.underlying3 (by kernel_rfl) rfl (by decide) (by decide) v39 ([] ++ (rd_T108 items j).f1) z167 (n : Int) (fun k => k < w.heap.size ∨ wr.heap.size < k) rfl rfl (k167_mkF wc _ z167 (A3 := none) (c3 := 0) (Nat.le_refl _) (Kd.F_nil _ _ _)) hfd.out NC.out (Int.natCast_nonneg n) HCC.out HCC.out.size (more_len2 LX.out HN.out) ?_; intro v41 wd hN hB hg hat; have HDD := Aside0.mk hB; have GD := Aside0.mk (blk_grown GC.out hg (Kd.N_away NC.out NE.out)); obtain ⟨AX, cX, e9⟩ : ∃ A c, v41 = .slice A (moreV n (rd_T108 items j)).f1.length c := Kd.N_slice hN; subst e9; have ND := Aside0.mk hN; clear hN hB hg hat NC HCC GC; have k1 := (blk_cell GD.out 1).trans rfl; have k2 := blk_frozen GD.out 1))
              generalize hw7 : wd.setCell _ _ = w7
              have HQ := Aside0.mk (show Below wr.heap.size wr w7 by rw [← hw7]; exact HDD.out.setCell (Nat.le_refl _) _)
              have G10 : w7.heap[wr.heap.size]? = some (.cells #[.string (rd_T108 items j).f0, .slice AX (moreV n (rd_T108 items j)).f1.length cX] 108 (0, 0)) := by rw [← hw7]; exact blk_set GD.out 1 _
              have ND7 : Kd.N k167 167 w7 wr.heap.size (fun k => k < w.heap.size ∨ wr.heap.size < k) (.slice AX (moreV n (rd_T108 items j)).f1.length cX) (moreV n (rd_T108 items j)).f1 := by rw [← hw7]; exact Kd.N_far ND.out (p := ⟨wr.heap.size, 1, none⟩) NE.out _
              have FKp := Aside0.mk (show Kd.FK k108 w7 (fun k => k < w.heap.size ∨ wr.heap.size < k) (moreV n (rd_T108 items j)) [.string (rd_T108 items j).f0, .slice AX (moreV n (rd_T108 items j)).f1.length cX] from k108_mkF w7 _ (moreV n (rd_T108 items j)) (Kd.N_reads' ND7).2.1 (Kd.N_F ND7))
              have PG := Aside0.mk (moreI_get0 n items j hjl HJ0.out)
              clear hw7 k1 k2 ND7 ND HDD GD
              have HB7 := Aside0.mk (HBq.out.trans (HQ.out.mono HBq.out.size))
              have K47 := Aside0.mk (show B4 w7 _ _ _ _ _ from (HQ.out.block _ (blk_lt K4q.out)).trans K4q.out)
              have K57 := Aside0.mk (show B4 w7 _ _ _ _ _ from (HQ.out.block _ (blk_lt K5q.out)).trans K5q.out)
              have G77 := Aside0.mk ((HQ.out.block _ (blk_lt G7q.out)).trans G7q.out)
              have NI7 := Aside0.mk (Kd.N_below NI.out HQ.out)
              have sz5 := blk_lt K5q.out
              have sz7 := blk_lt G7q.out
              have szq := HQ.out.size
              have FR := Aside0.mk (show ∀ k, w7.heap.size ≤ k → k ≠ w.heap.size + 1 ∧ k ≠ w.heap.size + 1 + 1 ∧ k ≠ gq from fun k hk => ⟨by omega, by omega, by omega⟩)
              have LB := Aside0.mk (show (((moreI n items).take j).length + 1) * 40 ≤ 140737488355328 by have := LI.out; rw [List.length_take]; omega)
              have OKP := Aside0.mk (show ∀ k, (k < w.heap.size ∨ wr.heap.size < k) → (k ≠ w.heap.size + 1 ∧ k ≠ w.heap.size + 1 + 1 ∧ k ≠ gq) ∧ some k ≠ vI.ownBlock from fun k hk => ⟨⟨by omega, by omega, by have := HG7.out; omega⟩, fun e => by have h8 := Kd.N_base NI.out k e.symm; have h9 := Kd.N_lt NI.out k e.symm; omega⟩)
              have TK := Aside0.mk (show (moreI n items).take (j + 1) = (moreI n items).take j ++ [moreV n (rd_T108 items j)] from more_take items _ _ j (moreI_len n items) hjl PG.out)
              have g10a := (blk_cell G10 0).trans rfl
              have g10b := (blk_cell G10 1).trans rfl
              have HJL := Aside0.mk hjl
              have jb : (j : Int) < 1000000 := by have := LI.out.1; omega
              clear sz5 sz7 szq G10 hjl
              go_wp2_with (at_builtin; refine Kd.N_append k108 (w0 := w) w.heap.size rfl (.tmp 43) (.tmp 45) 41 108 (.agg #[.string ⟨#[]⟩, .slice none 0 0]) 40 rfl Try.underlying41 (by kernel_rfl) rfl (by decide) (by decide) vI ((moreI n items).take j) (moreV n (rd_T108 items j)) [.string (rd_T108 items j).f0, .slice AX (moreV n (rd_T108 items j)).f1.length cX] (fun k => k ≠ w.heap.size + 1 ∧ k ≠ w.heap.size + 1 + 1 ∧ k ≠ gq) (fun k => k < w.heap.size ∨ wr.heap.size < k) rfl rfl FKp.out OKP.out FR.out NI7.out HB7.out HB7.out.size LB.out ?_; intro v1 w8 hN hB hg hat; have K5c := Aside0.mk (show B4 w8 _ _ _ _ _ from blk_grown K57.out hg (Kd.N_away NI7.out (fun k hk => hk.2.1))); have K4c := Aside0.mk (show B4 w8 _ _ _ _ _ from blk_grown K47.out hg (Kd.N_away NI7.out (fun k hk => hk.1))); have G7c := Aside0.mk ((blk_grown G77.out hg (Kd.N_away NI7.out (fun k hk => hk.2.2)))); have HBc := Aside0.mk hB; have NIc := Aside0.mk hN; clear hN hB hg hat g10a g10b)
              go_roundg (items.length - (j + 1))
              case measure => have := HJL.out; have := HJ.out; omega
              case rel =>
                refine ⟨j + 1, _, by have := HJL.out; have := HJ.out; omega, rfl, by go_num, HBc, K4c, K5c, G7c, ⟨?_⟩⟩
                rw [TK.out]
                exact NIc.out
            · have s0 : ((j : Int) == 0) = false := beq_eq_false_iff_ne.2 (by omega)
              have PGET := moreI_get n items j hjl hj0
              have PG := Aside0.mk PGET
              clear hj0 PGET
              go_upto_region 12 with (fail)
              generalize hw7 : wr.alloc _ = w7
              have HQ := Aside0.mk (show Below wr.heap.size wr w7 by rw [← hw7]; exact below_alloc (Below.refl _ _) _)
              have G10 : w7.heap[wr.heap.size]? = some (.cells #[.string (rd_T108 items j).f0, .slice AV (rd_T108 items j).f1.length cV] 108 (0, 0)) := by rw [← hw7]; exact Array.getElem?_push_size
              have FKp := Aside0.mk (show Kd.FK k108 w7 (fun k => k < w.heap.size ∨ wr.heap.size < k) (rd_T108 items j) [.string (rd_T108 items j).f0, .slice AV (rd_T108 items j).f1.length cV] by rw [← hw7]; exact Kd.FK_mono (Kd.FK_below FKj'.out (below_alloc (Below.refl _ _) _)) (fun k hk => .inl hk))
              clear hw7 k0 k1
              have HB7 := Aside0.mk (HBq.out.trans (HQ.out.mono HBq.out.size))
              have K47 := Aside0.mk (show B4 w7 _ _ _ _ _ from (HQ.out.block _ (blk_lt K4q.out)).trans K4q.out)
              have K57 := Aside0.mk (show B4 w7 _ _ _ _ _ from (HQ.out.block _ (blk_lt K5q.out)).trans K5q.out)
              have G77 := Aside0.mk ((HQ.out.block _ (blk_lt G7q.out)).trans G7q.out)
              have NI7 := Aside0.mk (Kd.N_below NI.out HQ.out)
              have sz5 := blk_lt K5q.out
              have sz7 := blk_lt G7q.out
              have szq := HQ.out.size
              have FR := Aside0.mk (show ∀ k, w7.heap.size ≤ k → k ≠ w.heap.size + 1 ∧ k ≠ w.heap.size + 1 + 1 ∧ k ≠ gq from fun k hk => ⟨by omega, by omega, by omega⟩)
              have LB := Aside0.mk (show (((moreI n items).take j).length + 1) * 40 ≤ 140737488355328 by have := LI.out; rw [List.length_take]; omega)
              have OKP := Aside0.mk (show ∀ k, (k < w.heap.size ∨ wr.heap.size < k) → (k ≠ w.heap.size + 1 ∧ k ≠ w.heap.size + 1 + 1 ∧ k ≠ gq) ∧ some k ≠ vI.ownBlock from fun k hk => ⟨⟨by omega, by omega, by have := HG7.out; omega⟩, fun e => by have h8 := Kd.N_base NI.out k e.symm; have h9 := Kd.N_lt NI.out k e.symm; omega⟩)
              have TK := Aside0.mk (show (moreI n items).take (j + 1) = (moreI n items).take j ++ [rd_T108 items j] from more_take items _ _ j (moreI_len n items) hjl PG.out)
              have g10a := (blk_cell G10 0).trans rfl
              have g10b := (blk_cell G10 1).trans rfl
              have HJL := Aside0.mk hjl
              have jb : (j : Int) < 1000000 := by have := LI.out.1; omega
              clear sz5 sz7 szq G10 hjl
              go_wp2_with (at_builtin; refine Kd.N_append k108 (w0 := w) w.heap.size rfl (.tmp 43) (.tmp 45) 41 108 (.agg #[.string ⟨#[]⟩, .slice none 0 0]) 40 rfl Try.underlying41 (by kernel_rfl) rfl (by decide) (by decide) vI ((moreI n items).take j) (rd_T108 items j) [.string (rd_T108 items j).f0, .slice AV (rd_T108 items j).f1.length cV] (fun k => k ≠ w.heap.size + 1 ∧ k ≠ w.heap.size + 1 + 1 ∧ k ≠ gq) (fun k => k < w.heap.size ∨ wr.heap.size < k) rfl rfl FKp.out OKP.out FR.out NI7.out HB7.out HB7.out.size LB.out ?_; intro v1 w8 hN hB hg hat; have K5c := Aside0.mk (show B4 w8 _ _ _ _ _ from blk_grown K57.out hg (Kd.N_away NI7.out (fun k hk => hk.2.1))); have K4c := Aside0.mk (show B4 w8 _ _ _ _ _ from blk_grown K47.out hg (Kd.N_away NI7.out (fun k hk => hk.1))); have G7c := Aside0.mk ((blk_grown G77.out hg (Kd.N_away NI7.out (fun k hk => hk.2.2)))); have HBc := Aside0.mk hB; have NIc := Aside0.mk hN; clear hN hB hg hat g10a g10b)
              go_roundg (items.length - (j + 1))
              case measure => have := HJL.out; have := HJ.out; omega
              case rel =>
                refine ⟨j + 1, _, by have := HJL.out; have := HJ.out; omega, rfl, by go_num, HBc, K4c, K5c, G7c, ⟨?_⟩⟩
                rw [TK.out]
                exact NIc.out
          · have hje : j = items.length := by have := HJ.out; omega
            obtain ⟨AI, cI, e9⟩ := Kd.N_slice NI.out
            have hlen : ((moreI n items).take j).length = items.length := by rw [List.length_take, moreI_len]; omega
            have hall : (moreI n items).take j = moreI n items := List.take_of_length_le (by rw [moreI_len]; omega)
            rw [hlen] at e9
            have NI2 := NI.out
            rw [e9, hall] at NI2
            have r1 : decide ((j : Int) < (items.length : Int)) = false := decide_eq_false (by omega)
            have r2 : decide (j < items.length) = false := decide_eq_false (by omega)
            have NI3 := Aside0.mk NI2
            subst e9
            have q4 := (blk_cell G7q.out 4).trans rfl
            have f4 := blk_frozen G7q.out 4
            have HJE := Aside0.mk hje
            have HJL := Aside0.mk hjl
            clear hlen hall NI2 hje NI hjl
            go_upto_region 15 with (fail)
            generalize hw9 : World.setCell _ _ _ = w9
            have HB9 := Aside0.mk (show Below w.heap.size w w9 by rw [← hw9]; exact HBq.out.setCell (show w.heap.size ≤ gq by have := HG7.out; omega) _)
            have K49 := Aside0.mk (show B4 w9 (w.heap.size + 1) (.int .i64 0) (.slice none 0 0) (.slice none 0 0) (.slice none 0 0) by rw [← hw9]; exact blk_far (p := ⟨gq, 4, none⟩) K4q.out (show w.heap.size + 1 ≠ gq by have := HG7.out; omega) _)
            have K59 := Aside0.mk (show B4 w9 (w.heap.size + 1 + 1) (.int .i64 0) (.slice A1 n1 c1) (.slice A2 n2 c2) (.slice none 0 0) by rw [← hw9]; exact blk_far (p := ⟨gq, 4, none⟩) K5q.out (show w.heap.size + 1 + 1 ≠ gq by have := HG7.out; omega) _)
            have G79 : w9.heap[gq]? = some (.cells #[.string (rd_T45 l3 i).f0, .int .i64 (rd_T45 l3 i).f1, .slice B2 (rd_T45 l3 i).f2.length e2, .slice B3 (rd_T45 l3 i).f3.length e3, .slice AI items.length cI, .slice B5 (rd_T45 l3 i).f5.length e5, .slice B6 (rd_T45 l3 i).f6.length e6] 45 (0, 0)) := by rw [← hw9]; exact blk_set G7q.out 4 _
            have NI9 : Kd.N k108 108 w9 w.heap.size (fun k => k ≠ w.heap.size + 1 ∧ k ≠ w.heap.size + 1 + 1 ∧ k ≠ gq) (.slice AI items.length cI) (moreI n items) := by rw [← hw9]; exact Kd.N_far NI3.out (p := ⟨gq, 4, none⟩) (fun k hk => hk.2.2) _
            have FK9 : Kd.FK k45 w9 (fun k => k < w.heap.size) (rd_T45 l3 i) (cells45 (rd_T45 l3 i) B2 e2 B3 e3 BI e4 B5 e5 B6 e6) := Kd.FK_step FKb.out (fun k hk _ => (HB9.out.block k hk).trans (HB2.out.block k hk).symm)
            have FR9 := Aside0.mk (more_FK n FK9 NI9 HIT.out)
            have HGQ := HG7.out
            clear hw9 NI9 FK9 f4 q4 HBq K4q K5q G7q r1 r2 HB2 K4b K5b NFb FKb NI3
            have FR := Aside0.mk (show ∀ k, w9.heap.size ≤ k → k ≠ w.heap.size + 1 ∧ k ≠ w.heap.size + 1 + 1 from fun k hk => by have := blk_lt K59.out; omega)
            have LB := Aside0.mk (show (((moreF n l3).take i).length + 1) * 144 ≤ 140737488355328 by have := HL.out; rw [List.length_take, moreF_len]; omega)
            have NF9 := Aside0.mk (show Kd.N k45 45 w9 w.heap.size (fun k => k ≠ w.heap.size + 1 ∧ k ≠ w.heap.size + 1 + 1) (.slice none 0 0) ((moreF n l3).take i) by rw [hi0'.out]; exact Kd.N_nil _ _ _ _ _)
            have LN := Aside0.mk (show ((moreF n l3).take i ++ [moreO n (rd_T45 l3 i)]).length = i + 1 by have := HLT.out; rw [List.length_append, List.length_take, moreF_len, List.length_singleton]; omega)
            have OKP := Aside0.mk (show ∀ k, (k ≠ w.heap.size + 1 ∧ k ≠ w.heap.size + 1 + 1) → (k ≠ w.heap.size + 1 ∧ k ≠ w.heap.size + 1 + 1) ∧ some k ≠ (Value.slice none 0 0).ownBlock from fun k hk => ⟨hk, by simp [Value.ownBlock]⟩)
            have TK := Aside0.mk (show (moreF n l3).take (i + 1) = (moreF n l3).take i ++ [moreO n (rd_T45 l3 i)] from more_take l3 _ _ i (moreF_len n l3) HLT.out (moreF_get0 n l3 i HLT.out hi0'.out))
            have HIT' := HIT
            clear HGQ
            obtain ⟨z0, z1, z2, z3, f0, f1, f2, f3⟩ := b4_cells K59.out
            have d0 := (blk_cell G79 0).trans rfl
            have d1 := (blk_cell G79 1).trans rfl
            have d2 := (blk_cell G79 2).trans rfl
            have d3 := (blk_cell G79 3).trans rfl
            have d4 := (blk_cell G79 4).trans rfl
            have d5 := (blk_cell G79 5).trans rfl
            have d6 := (blk_cell G79 6).trans rfl
            have GG := Aside0.mk G79
            clear G79
            go_wp2_with (at_builtin; refine Kd.N_append k45 (w0 := w) w.heap.size rfl (.tmp 51) (.tmp 53) 33 45 (.agg #[.string ⟨#[]⟩, .int .i64 0, .slice none 0 0, .slice none 0 0, .slice none 0 0, .slice none 0 0, .slice none 0 0]) 144 rfl Try.underlying33 (by kernel_rfl) rfl (by decide) (by decide) (.slice none 0 0) ((moreF n l3).take i) (moreO n (rd_T45 l3 i)) [.string (rd_T45 l3 i).f0, .int .i64 (rd_T45 l3 i).f1, .slice B2 (rd_T45 l3 i).f2.length e2, .slice B3 (rd_T45 l3 i).f3.length e3, (.slice AI items.length cI), .slice B5 (rd_T45 l3 i).f5.length e5, .slice B6 (rd_T45 l3 i).f6.length e6] (fun k => k ≠ w.heap.size + 1 ∧ k ≠ w.heap.size + 1 + 1) (fun k => k ≠ w.heap.size + 1 ∧ k ≠ w.heap.size + 1 + 1) rfl rfl FR9.out OKP.out FR.out NF9.out HB9.out HB9.out.size LB.out ?_; intro v1 w4 hN hB hg hat; have K5c := Aside0.mk (show B4 w4 _ _ _ _ _ from blk_grown K59.out hg (Kd.N_away NF9.out (fun k hk => hk.2))); have K4c := Aside0.mk (show B4 w4 _ _ _ _ _ from blk_grown K49.out hg (Kd.N_away NF9.out (fun k hk => hk.1))); have HBc := Aside0.mk hB; have NFc := Aside0.mk hN; obtain ⟨AN, cN, e9⟩ := Kd.N_slice hN; rw [LN.out] at e9; subst e9; clear hN hB hg hat z0 z1 z2 z3 f0 f1 f2 f3 d0 d1 d2 d3 d4 d5 d6; obtain ⟨z0, z1, z2, z3, f0, f1, f2, f3⟩ := b4_cells K5c.out)
            go_roundg (l3.length - (i + 1))
            case measure => have := HI2.out; have := HLT.out; omega
            case rel =>
              refine ⟨i + 1, _, by have := HI2.out; have := HLT.out; omega, by go_num, ⟨HBc.out.setCell (show w.heap.size ≤ w.heap.size + 1 + 1 by omega) _⟩, ⟨blk_far (p := ⟨w.heap.size + 1 + 1, 3, none⟩) K4c.out (by simp) _⟩, ⟨blk_set K5c.out 3 _⟩, ⟨?_⟩, fun h => by omega⟩
              rw [TK.out]
              exact Kd.N_far NFc.out (p := ⟨w.heap.size + 1 + 1, 3, none⟩) (fun k hk => hk.2) _
      · have t0 : ((i : Int) == 0) = false := beq_eq_false_iff_ne.2 (by omega)
        have hi0' := Aside0.mk hi0
        clear hi0
        go_upto_region 15 with (fail)
        generalize hw2 : wr.alloc _ = w2
        have HB2 := Aside0.mk (show Below w.heap.size w w2 by rw [← hw2]; exact below_alloc HB.out _)
        have K4b := Aside0.mk (show B4 w2 (w.heap.size + 1) (.int .i64 0) (.slice none 0 0) (.slice none 0 0) (.slice none 0 0) by rw [← hw2]; exact blk_alloc K4.out _)
        have K5b := Aside0.mk (show B4 w2 (w.heap.size + 1 + 1) (.int .i64 0) (.slice A1 n1 c1) (.slice A2 n2 c2) vF by rw [← hw2]; exact blk_alloc K5.out _)
        have NFb := Aside0.mk (show Kd.N k45 45 w2 w.heap.size (fun k => k ≠ w.heap.size + 1 ∧ k ≠ w.heap.size + 1 + 1) vF ((moreF n l3).take i) by rw [← hw2]; exact Kd.N_alloc NF.out _)
        have G7 : w2.heap[wr.heap.size]? = some (.cells #[.string (rd_T45 l3 i).f0, .int .i64 (rd_T45 l3 i).f1, .slice B2 (rd_T45 l3 i).f2.length e2, .slice B3 (rd_T45 l3 i).f3.length e3, .slice BI (rd_T45 l3 i).f4.length e4, .slice B5 (rd_T45 l3 i).f5.length e5, .slice B6 (rd_T45 l3 i).f6.length e6] 45 (0, 0)) := by rw [← hw2]; exact Array.getElem?_push_size
        have FKb := Aside0.mk (show Kd.FK k45 w2 (fun k => k < w.heap.size) (rd_T45 l3 i) (cells45 (rd_T45 l3 i) B2 e2 B3 e3 BI e4 B5 e5 B6 e6) by rw [← hw2]; exact Kd.FK_below FK'.out (below_alloc (Below.refl _ _) _))
        clear hw2 HB K4 K5 NF FK' h0 h1 h2 h3 h4 h5 h6
        have FR := Aside0.mk (show ∀ k, w2.heap.size ≤ k → k ≠ w.heap.size + 1 ∧ k ≠ w.heap.size + 1 + 1 from fun k hk => by have := blk_lt K5b.out; omega)
        have LB := Aside0.mk (show (((moreF n l3).take i).length + 1) * 144 ≤ 140737488355328 by rw [List.length_take]; omega)
        have LN := Aside0.mk (show ((moreF n l3).take i ++ [rd_T45 l3 i]).length = i + 1 by rw [List.length_append, List.length_take, moreF_len, List.length_singleton]; omega)
        have OKP := Aside0.mk (show ∀ k, k < w.heap.size → (k ≠ w.heap.size + 1 ∧ k ≠ w.heap.size + 1 + 1) ∧ some k ≠ vF.ownBlock from fun k hk => ⟨by omega, fun e => by have := Kd.N_base NFb.out k e.symm; omega⟩)
        have TK := Aside0.mk (show (moreF n l3).take (i + 1) = (moreF n l3).take i ++ [rd_T45 l3 i] from more_take l3 _ _ i (moreF_len n l3) hlt (more_get n l3 i hlt hi0'.out))
        obtain ⟨z0, z1, z2, z3, f0, f1, f2, f3⟩ := b4_cells K5b.out
        have d0 := (blk_cell G7 0).trans rfl
        have d1 := (blk_cell G7 1).trans rfl
        have d2 := (blk_cell G7 2).trans rfl
        have d3 := (blk_cell G7 3).trans rfl
        have d4 := (blk_cell G7 4).trans rfl
        have d5 := (blk_cell G7 5).trans rfl
        have d6 := (blk_cell G7 6).trans rfl
        have GG := Aside0.mk G7
        clear G7
        go_wp2_with (at_builtin; refine Kd.N_append k45 (w0 := w) w.heap.size rfl (.tmp 51) (.tmp 53) 33 45 (.agg #[.string ⟨#[]⟩, .int .i64 0, .slice none 0 0, .slice none 0 0, .slice none 0 0, .slice none 0 0, .slice none 0 0]) 144 rfl Try.underlying33 (by kernel_rfl) rfl (by decide) (by decide) vF ((moreF n l3).take i) (rd_T45 l3 i) [.string (rd_T45 l3 i).f0, .int .i64 (rd_T45 l3 i).f1, .slice B2 (rd_T45 l3 i).f2.length e2, .slice B3 (rd_T45 l3 i).f3.length e3, (.slice BI (rd_T45 l3 i).f4.length e4), .slice B5 (rd_T45 l3 i).f5.length e5, .slice B6 (rd_T45 l3 i).f6.length e6] (fun k => k ≠ w.heap.size + 1 ∧ k ≠ w.heap.size + 1 + 1) (fun k => k < w.heap.size) rfl rfl FKb.out OKP.out FR.out NFb.out HB2.out HB2.out.size LB.out ?_; intro v1 w4 hN hB hg hat; have K5c := Aside0.mk (show B4 w4 _ _ _ _ _ from blk_grown K5b.out hg (Kd.N_away NFb.out (fun k hk => hk.2))); have K4c := Aside0.mk (show B4 w4 _ _ _ _ _ from blk_grown K4b.out hg (Kd.N_away NFb.out (fun k hk => hk.1))); have HBc := Aside0.mk hB; have NFc := Aside0.mk hN; obtain ⟨AN, cN, e9⟩ := Kd.N_slice hN; rw [LN.out] at e9; subst e9; clear hN hB hg hat z0 z1 z2 z3 f0 f1 f2 f3 d0 d1 d2 d3 d4 d5 d6; obtain ⟨z0, z1, z2, z3, f0, f1, f2, f3⟩ := b4_cells K5c.out)
        go_roundg (gk - 1)
        case measure => omega
        case rel =>
          refine ⟨i + 1, _, by omega, by go_num, ⟨HBc.out.setCell (show w.heap.size ≤ w.heap.size + 1 + 1 by omega) _⟩, ⟨blk_far (p := ⟨w.heap.size + 1 + 1, 3, none⟩) K4c.out (by simp) _⟩, ⟨blk_set K5c.out 3 _⟩, ⟨?_⟩, fun h => by omega⟩
          rw [TK.out]
          exact Kd.N_far NFc.out (p := ⟨w.heap.size + 1 + 1, 3, none⟩) (fun k hk => hk.2) _
    · obtain rfl : i = l3.length := by omega
      obtain ⟨AN, cN, e9⟩ := Kd.N_slice NF.out
      have hlen : ((moreF n l3).take l3.length).length = l3.length := by rw [List.length_take, moreF_len]; omega
      rw [hlen] at e9
      subst e9
      have FIN := Aside0.mk (more_fin NF.out (moreF_len n l3) K4.out HB.out A1 n1 c1 A2 n2 c2)
      clear hlen
      obtain ⟨x0, x1, x2, x3, y0, y1, y2, y3⟩ := b4_cells K4.out
      obtain ⟨z0, z1, z2, z3, _, _, _, _⟩ := b4_cells K5.out
      go_wp2
      refine bodyPost_ret (results_cell_row rfl _ _ (w.heap.size + 1) 35 #[.int .i64 0, .slice A1 n1 c1, .slice A2 n2 c2, .slice AN l3.length cN] (0, 0) _ rfl (put4b K4.out _ _ _ _) Try.underlying35 rfl (by kernel_rfl)) rfl ?_
      exact ⟨AN, cN, rfl, FIN.out⟩

end Go.Proofs.Ytealjhngfhlpaaa.PBoundLeft
